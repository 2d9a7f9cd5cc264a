/- MADE BY PROGRAM (tools350/mir.py): mirror and walk. -/
import Derived.Test.Qxb6500350aGreatF2
import Derived.Test.Qxb6500350aGreatT136
import Derived.Test.Qxb6500350aGreatT264
import Derived.Test.Qxb6500350aGreatT265
set_option linter.unusedVariables false
set_option linter.unusedSimpArgs false
set_option maxRecDepth 20000
set_option maxHeartbeats 4000000
namespace Go.Proofs.Qxb6500350aGreat
open Go.Eng

def op_199_10 : Array Go.Oper := #[{ dst := some 43, op := Go.Op.move (Go.Operand.tmp 3), type := 3, pos := "check.go:102", after := #[], guard := none }, { dst := some 44, op := Go.Op.binOp Go.BinOp.gtr 3 (Go.Operand.tmp 43) (Go.Operand.const (Go.Value.int Go.IntKind.i64 0)) 3, type := 4, pos := "check.go:102", after := #[{ on := 0, ground := Go.Ground.data }], guard := none }, { dst := some 45, op := Go.Op.move (Go.Operand.tmp 44), type := 4, pos := "check.go:102", after := #[{ on := 1, ground := Go.Ground.data }], guard := none }, { dst := some 46, op := Go.Op.move (Go.Operand.tmp 0), type := 30, pos := "check.go:102", after := #[{ on := 2, ground := Go.Ground.guard }], guard := some (2, true) }, { dst := some 47, op := Go.Op.move (Go.Operand.tmp 3), type := 3, pos := "check.go:102", after := #[{ on := 2, ground := Go.Ground.guard }], guard := some (2, true) }, { dst := some 48, op := Go.Op.binOp Go.BinOp.sub 3 (Go.Operand.tmp 47) (Go.Operand.const (Go.Value.int Go.IntKind.i64 1)) 3, type := 3, pos := "check.go:102", after := #[{ on := 4, ground := Go.Ground.data }, { on := 2, ground := Go.Ground.guard }], guard := some (2, true) }, { dst := some 49, op := Go.Op.nilCheck (Go.Operand.tmp 46), type := 0, pos := "check.go:102", after := #[{ on := 3, ground := Go.Ground.data }, { on := 2, ground := Go.Ground.guard }], guard := some (2, true) }, { dst := some 50, op := Go.Op.fieldAddr 179 (Go.Operand.tmp 49) 4, type := 0, pos := "check.go:102", after := #[{ on := 6, ground := Go.Ground.data }, { on := 2, ground := Go.Ground.guard }], guard := some (2, true) }, { dst := some 51, op := Go.Op.indexAddr 177 (Go.Operand.tmp 50) (Go.Operand.tmp 48), type := 0, pos := "check.go:102", after := #[{ on := 7, ground := Go.Ground.data }, { on := 5, ground := Go.Ground.data }, { on := 2, ground := Go.Ground.guard }], guard := some (2, true) }, { dst := some 52, op := Go.Op.fieldAddr 176 (Go.Operand.tmp 51) 0, type := 0, pos := "check.go:102", after := #[{ on := 8, ground := Go.Ground.data }, { on := 2, ground := Go.Ground.guard }], guard := some (2, true) }, { dst := some 53, op := Go.Op.load 9 (Go.Operand.tmp 52), type := 9, pos := "check.go:102", after := #[{ on := 9, ground := Go.Ground.data }, { on := 2, ground := Go.Ground.guard }], guard := some (2, true) }, { dst := some 54, op := Go.Op.move (Go.Operand.tmp 0), type := 30, pos := "check.go:102", after := #[{ on := 2, ground := Go.Ground.guard }], guard := some (2, true) }, { dst := some 55, op := Go.Op.move (Go.Operand.tmp 3), type := 3, pos := "check.go:102", after := #[{ on := 2, ground := Go.Ground.guard }], guard := some (2, true) }, { dst := some 56, op := Go.Op.nilCheck (Go.Operand.tmp 54), type := 0, pos := "check.go:102", after := #[{ on := 11, ground := Go.Ground.data }, { on := 2, ground := Go.Ground.guard }], guard := some (2, true) }, { dst := some 57, op := Go.Op.fieldAddr 179 (Go.Operand.tmp 56) 4, type := 0, pos := "check.go:102", after := #[{ on := 13, ground := Go.Ground.data }, { on := 2, ground := Go.Ground.guard }], guard := some (2, true) }, { dst := some 58, op := Go.Op.indexAddr 177 (Go.Operand.tmp 57) (Go.Operand.tmp 55), type := 0, pos := "check.go:102", after := #[{ on := 14, ground := Go.Ground.data }, { on := 12, ground := Go.Ground.data }, { on := 2, ground := Go.Ground.guard }], guard := some (2, true) }, { dst := some 59, op := Go.Op.fieldAddr 176 (Go.Operand.tmp 58) 0, type := 0, pos := "check.go:102", after := #[{ on := 15, ground := Go.Ground.data }, { on := 2, ground := Go.Ground.guard }], guard := some (2, true) }, { dst := some 60, op := Go.Op.load 9 (Go.Operand.tmp 59), type := 9, pos := "check.go:102", after := #[{ on := 16, ground := Go.Ground.data }, { on := 2, ground := Go.Ground.guard }], guard := some (2, true) }, { dst := some 61, op := Go.Op.binOp Go.BinOp.geq 9 (Go.Operand.tmp 53) (Go.Operand.tmp 60) 9, type := 4, pos := "check.go:102", after := #[{ on := 10, ground := Go.Ground.data }, { on := 17, ground := Go.Ground.data }, { on := 2, ground := Go.Ground.guard }], guard := some (2, true) }, { dst := some 62, op := Go.Op.pick (Go.Operand.tmp 45) (Go.Operand.tmp 61) (Go.Operand.const (Go.Value.bool false)), type := 4, pos := "check.go:102", after := #[{ on := 2, ground := Go.Ground.data }, { on := 18, ground := Go.Ground.data }], guard := none }]
theorem sb_199_10_0 : softB op_199_10 #[true, true, true, true, true, true, true, true, true, true, true, true, true, true, true, true, true, true, true, true] (Array.replicate 20 false) 0 = true := by kernel_rfl
theorem sb_199_10_1 : softB op_199_10 #[true, true, true, true, true, true, true, true, true, true, true, true, true, true, true, true, true, true, true, true] ((Array.replicate 20 false).setIfInBounds 0 true) 1 = true := by kernel_rfl
theorem sb_199_10_2 : softB op_199_10 #[true, true, true, true, true, true, true, true, true, true, true, true, true, true, true, true, true, true, true, true] (((Array.replicate 20 false).setIfInBounds 0 true).setIfInBounds 1 true) 2 = true := by kernel_rfl
theorem sb_199_10_3 : softB op_199_10 #[true, true, true, true, true, true, true, true, true, true, true, true, true, true, true, true, true, true, true, true] ((((Array.replicate 20 false).setIfInBounds 0 true).setIfInBounds 1 true).setIfInBounds 2 true) 3 = true := by kernel_rfl
theorem sb_199_10_4 : softB op_199_10 #[true, true, true, true, true, true, true, true, true, true, true, true, true, true, true, true, true, true, true, true] (((((Array.replicate 20 false).setIfInBounds 0 true).setIfInBounds 1 true).setIfInBounds 2 true).setIfInBounds 3 true) 4 = true := by kernel_rfl
theorem sb_199_10_5 : softB op_199_10 #[true, true, true, true, true, true, true, true, true, true, true, true, true, true, true, true, true, true, true, true] ((((((Array.replicate 20 false).setIfInBounds 0 true).setIfInBounds 1 true).setIfInBounds 2 true).setIfInBounds 3 true).setIfInBounds 4 true) 5 = true := by kernel_rfl
theorem sb_199_10_6 : softB op_199_10 #[true, true, true, true, true, true, true, true, true, true, true, true, true, true, true, true, true, true, true, true] (((((((Array.replicate 20 false).setIfInBounds 0 true).setIfInBounds 1 true).setIfInBounds 2 true).setIfInBounds 3 true).setIfInBounds 4 true).setIfInBounds 5 true) 6 = true := by kernel_rfl
theorem sb_199_10_7 : softB op_199_10 #[true, true, true, true, true, true, true, true, true, true, true, true, true, true, true, true, true, true, true, true] ((((((((Array.replicate 20 false).setIfInBounds 0 true).setIfInBounds 1 true).setIfInBounds 2 true).setIfInBounds 3 true).setIfInBounds 4 true).setIfInBounds 5 true).setIfInBounds 6 true) 7 = true := by kernel_rfl
theorem sb_199_10_8 : softB op_199_10 #[true, true, true, true, true, true, true, true, true, true, true, true, true, true, true, true, true, true, true, true] (((((((((Array.replicate 20 false).setIfInBounds 0 true).setIfInBounds 1 true).setIfInBounds 2 true).setIfInBounds 3 true).setIfInBounds 4 true).setIfInBounds 5 true).setIfInBounds 6 true).setIfInBounds 7 true) 8 = true := by kernel_rfl
theorem sb_199_10_9 : softB op_199_10 #[true, true, true, true, true, true, true, true, true, true, true, true, true, true, true, true, true, true, true, true] ((((((((((Array.replicate 20 false).setIfInBounds 0 true).setIfInBounds 1 true).setIfInBounds 2 true).setIfInBounds 3 true).setIfInBounds 4 true).setIfInBounds 5 true).setIfInBounds 6 true).setIfInBounds 7 true).setIfInBounds 8 true) 9 = true := by kernel_rfl
theorem sb_199_10_10 : softB op_199_10 #[true, true, true, true, true, true, true, true, true, true, true, true, true, true, true, true, true, true, true, true] (((((((((((Array.replicate 20 false).setIfInBounds 0 true).setIfInBounds 1 true).setIfInBounds 2 true).setIfInBounds 3 true).setIfInBounds 4 true).setIfInBounds 5 true).setIfInBounds 6 true).setIfInBounds 7 true).setIfInBounds 8 true).setIfInBounds 9 true) 10 = true := by kernel_rfl
theorem sb_199_10_11 : softB op_199_10 #[true, true, true, true, true, true, true, true, true, true, true, true, true, true, true, true, true, true, true, true] ((((((((((((Array.replicate 20 false).setIfInBounds 0 true).setIfInBounds 1 true).setIfInBounds 2 true).setIfInBounds 3 true).setIfInBounds 4 true).setIfInBounds 5 true).setIfInBounds 6 true).setIfInBounds 7 true).setIfInBounds 8 true).setIfInBounds 9 true).setIfInBounds 10 true) 11 = true := by kernel_rfl
theorem sb_199_10_12 : softB op_199_10 #[true, true, true, true, true, true, true, true, true, true, true, true, true, true, true, true, true, true, true, true] (((((((((((((Array.replicate 20 false).setIfInBounds 0 true).setIfInBounds 1 true).setIfInBounds 2 true).setIfInBounds 3 true).setIfInBounds 4 true).setIfInBounds 5 true).setIfInBounds 6 true).setIfInBounds 7 true).setIfInBounds 8 true).setIfInBounds 9 true).setIfInBounds 10 true).setIfInBounds 11 true) 12 = true := by kernel_rfl
theorem sb_199_10_13 : softB op_199_10 #[true, true, true, true, true, true, true, true, true, true, true, true, true, true, true, true, true, true, true, true] ((((((((((((((Array.replicate 20 false).setIfInBounds 0 true).setIfInBounds 1 true).setIfInBounds 2 true).setIfInBounds 3 true).setIfInBounds 4 true).setIfInBounds 5 true).setIfInBounds 6 true).setIfInBounds 7 true).setIfInBounds 8 true).setIfInBounds 9 true).setIfInBounds 10 true).setIfInBounds 11 true).setIfInBounds 12 true) 13 = true := by kernel_rfl
theorem sb_199_10_14 : softB op_199_10 #[true, true, true, true, true, true, true, true, true, true, true, true, true, true, true, true, true, true, true, true] (((((((((((((((Array.replicate 20 false).setIfInBounds 0 true).setIfInBounds 1 true).setIfInBounds 2 true).setIfInBounds 3 true).setIfInBounds 4 true).setIfInBounds 5 true).setIfInBounds 6 true).setIfInBounds 7 true).setIfInBounds 8 true).setIfInBounds 9 true).setIfInBounds 10 true).setIfInBounds 11 true).setIfInBounds 12 true).setIfInBounds 13 true) 14 = true := by kernel_rfl
theorem sb_199_10_15 : softB op_199_10 #[true, true, true, true, true, true, true, true, true, true, true, true, true, true, true, true, true, true, true, true] ((((((((((((((((Array.replicate 20 false).setIfInBounds 0 true).setIfInBounds 1 true).setIfInBounds 2 true).setIfInBounds 3 true).setIfInBounds 4 true).setIfInBounds 5 true).setIfInBounds 6 true).setIfInBounds 7 true).setIfInBounds 8 true).setIfInBounds 9 true).setIfInBounds 10 true).setIfInBounds 11 true).setIfInBounds 12 true).setIfInBounds 13 true).setIfInBounds 14 true) 15 = true := by kernel_rfl
theorem sb_199_10_16 : softB op_199_10 #[true, true, true, true, true, true, true, true, true, true, true, true, true, true, true, true, true, true, true, true] (((((((((((((((((Array.replicate 20 false).setIfInBounds 0 true).setIfInBounds 1 true).setIfInBounds 2 true).setIfInBounds 3 true).setIfInBounds 4 true).setIfInBounds 5 true).setIfInBounds 6 true).setIfInBounds 7 true).setIfInBounds 8 true).setIfInBounds 9 true).setIfInBounds 10 true).setIfInBounds 11 true).setIfInBounds 12 true).setIfInBounds 13 true).setIfInBounds 14 true).setIfInBounds 15 true) 16 = true := by kernel_rfl
theorem sb_199_10_17 : softB op_199_10 #[true, true, true, true, true, true, true, true, true, true, true, true, true, true, true, true, true, true, true, true] ((((((((((((((((((Array.replicate 20 false).setIfInBounds 0 true).setIfInBounds 1 true).setIfInBounds 2 true).setIfInBounds 3 true).setIfInBounds 4 true).setIfInBounds 5 true).setIfInBounds 6 true).setIfInBounds 7 true).setIfInBounds 8 true).setIfInBounds 9 true).setIfInBounds 10 true).setIfInBounds 11 true).setIfInBounds 12 true).setIfInBounds 13 true).setIfInBounds 14 true).setIfInBounds 15 true).setIfInBounds 16 true) 17 = true := by kernel_rfl
theorem sb_199_10_18 : softB op_199_10 #[true, true, true, true, true, true, true, true, true, true, true, true, true, true, true, true, true, true, true, true] (((((((((((((((((((Array.replicate 20 false).setIfInBounds 0 true).setIfInBounds 1 true).setIfInBounds 2 true).setIfInBounds 3 true).setIfInBounds 4 true).setIfInBounds 5 true).setIfInBounds 6 true).setIfInBounds 7 true).setIfInBounds 8 true).setIfInBounds 9 true).setIfInBounds 10 true).setIfInBounds 11 true).setIfInBounds 12 true).setIfInBounds 13 true).setIfInBounds 14 true).setIfInBounds 15 true).setIfInBounds 16 true).setIfInBounds 17 true) 18 = true := by kernel_rfl
theorem sb_199_10_19 : softB op_199_10 #[true, true, true, true, true, true, true, true, true, true, true, true, true, true, true, true, true, true, true, true] ((((((((((((((((((((Array.replicate 20 false).setIfInBounds 0 true).setIfInBounds 1 true).setIfInBounds 2 true).setIfInBounds 3 true).setIfInBounds 4 true).setIfInBounds 5 true).setIfInBounds 6 true).setIfInBounds 7 true).setIfInBounds 8 true).setIfInBounds 9 true).setIfInBounds 10 true).setIfInBounds 11 true).setIfInBounds 12 true).setIfInBounds 13 true).setIfInBounds 14 true).setIfInBounds 15 true).setIfInBounds 16 true).setIfInBounds 17 true).setIfInBounds 18 true) 19 = true := by kernel_rfl
theorem sb_199_10_20 : hardB op_199_10 (((((((((((((((((((((Array.replicate 20 false).setIfInBounds 0 true).setIfInBounds 1 true).setIfInBounds 2 true).setIfInBounds 3 true).setIfInBounds 4 true).setIfInBounds 5 true).setIfInBounds 6 true).setIfInBounds 7 true).setIfInBounds 8 true).setIfInBounds 9 true).setIfInBounds 10 true).setIfInBounds 11 true).setIfInBounds 12 true).setIfInBounds 13 true).setIfInBounds 14 true).setIfInBounds 15 true).setIfInBounds 16 true).setIfInBounds 17 true).setIfInBounds 18 true).setIfInBounds 19 true) [] = true := by kernel_rfl
/- (*graph.Graph).refsFine -/
def m199_w1 (n : Nat) (g : Graph) (mm : Nat) : Int → Option (Flow (Bool) (Int)) := it1 (fun lp1 c1 =>
cond (decide (c1 < g.nb)) (
Option.bind (ckA c1 4) fun _ =>
ob1 (m136 n ((g.br c1).name)) fun c3 =>
cond (!c3) (
Option.bind (some false) fun q1 => some (.ret q1)) (
Option.bind (ckA c1 4) fun _ =>
ob1 (m264 n g ((g.br c1).id)) fun c4 =>
cond (!c4) (
Option.bind (some false) fun q2 => some (.ret q2)) (
ob1 (cond (decide ((0 : Int) < c1)) (Option.bind (ckA (wi (c1 - 1)) 4) fun _ =>
Option.bind (ckA c1 4) fun _ =>
some ((!(sLt ((g.br (wi (c1 - 1))).name) ((g.br c1).name))))) (some (false))) fun c5 =>
cond c5 (
Option.bind (some false) fun q3 => some (.ret q3)) (
lp1 (wi (c1 + 1)))))) (
some (.nx c1))) mm
def m199 (n : Nat) (g : Graph) (t : Trees) (s : Store) (d : Dev) : Option (Bool) :=
cond ((decide (g.nb < 0)) || (decide ((4 : Int) < g.nb))) (
some false) (
flow (m199_w1 n g n 0) some (un1 fun c2 =>
flow (cond (!(decide (g.name = []))) (
ob1 (m136 n g.name) fun c6 =>
cond (!c6) (
Option.bind (some false) fun q4 => some (.ret q4)) (
cond (decide (¬ (g.at_ = 0))) (
Option.bind (some false) fun q5 => some (.ret q5)) (
some (.nx ())))) (
ob1 (m264 n g g.at_) fun c7 =>
cond (!c7) (
Option.bind (some false) fun q6 => some (.ret q6)) (
some (.nx ())))) some (fun _ =>
cond (decide (¬ (g.merge = 0))) (
ob1 (m264 n g g.merge) fun c8 =>
cond (!c8) (
some false) (
ob1 (m265 n g t s d g.aux) fun c9 =>
some c9)) (
ob1 (m265 n g t s d g.aux) fun c10 =>
some c10))))
theorem t199 {n : Nat} {C : List Chunk} {rc1 : Bool} {b1 : Nat} {g : Graph} {b2 : Nat} {t : Trees} {b3 : Nat} {s : Store} {b4 : Nat} {d : Dev} {v1 : Value} {g1 : List Chunk} {v2 : Value} {g2 : List Chunk} {v3 : Value} {g3 : List Chunk} {v4 : Value} {g4 : List Chunk} (ho1 : Own rByte v1 d.blk g1) (ho2 : Own rByte v2 d.base g2) (ho3 : Own rInt v3 d.at_ g3) (ho4 : Own rByte v4 d.data g4)  (hm : m199 n g t s d = some rc1) : Trip Tryz.prog 199 #[.pointer (some ⟨b1, 0, none⟩)] ([[(b1, .cells (Graph.enc (.pointer (some ⟨b2, 0, none⟩)) g).toArray 179 (0, 0))], [(b2, .cells (Trees.enc (.pointer (some ⟨b3, 0, none⟩)) t).toArray 169 (0, 0))], [(b3, .cells (Store.enc (.pointer (some ⟨b4, 0, none⟩)) s).toArray 126 (0, 0))], [(b4, .cells (Dev.enc (v1) (v2) (v3) (v4) d).toArray 85 (0, 0))], g1, g2, g3, g4] ++ [C]) (fun u S' => .bool rc1 = u ∧ S' = [[(b1, .cells (Graph.enc (.pointer (some ⟨b2, 0, none⟩)) g).toArray 179 (0, 0))], [(b2, .cells (Trees.enc (.pointer (some ⟨b3, 0, none⟩)) t).toArray 169 (0, 0))], [(b3, .cells (Store.enc (.pointer (some ⟨b4, 0, none⟩)) s).toArray 126 (0, 0))], [(b4, .cells (Dev.enc (v1) (v2) (v3) (v4) d).toArray 85 (0, 0))], g1, g2, g3, g4] ++ [C]) := by
  refine fn_entry (args := [.pointer (some ⟨b1, 0, none⟩)]) Tryz.func199 rfl Tryz.ntmps199 rfl (fun w0 => ?_)
  refine c_seq ?_
  refine c_region ?_
  refine o_L (y_assign rfl) rfl rfl ?_
  refine o_nil0 rfl ?_
  refine c_seq ?_
  refine c_seq ?_
  refine c_joinP (n := 0) (fun sh G => sh = [(15, .bool ((decide (g.nb < 0)) || (decide ((4 : Int) < g.nb))))] ∧ G = []) Sel.all' .z (fun _ _ h => h) ?_ ?_
  · skip
    refine c_region ?_
    refine o_T (y_move rfl) rfl ?_
    refine o_T (y_nilck rfl) rfl ?_
    refine o_T (y_fa fl_179_5 rfl) rfl ?_
    refine o_ld one_3 rfl m0 (At.got (At.refl.comp Graph.a_nb)) rfl ?_
    refine o_T (y_lss rfl rfl) rfl ?_
    refine o_T (y_move rfl) rfl ?_
    refine o_split 9 rfl (fun h1 => ?_) (fun h1 => ?_)
    · skip
      refine o_pass rfl rfl rfl rfl rfl ?_
      refine o_pass rfl rfl rfl rfl rfl ?_
      refine o_pass rfl rfl rfl rfl rfl ?_
      refine o_pass rfl rfl rfl rfl rfl ?_
      refine o_pass rfl rfl rfl rfl rfl ?_
      refine o_T (y_pickT rfl rfl) rfl ?_
      refine o_nil1 15 rfl rfl ?_
      refine ⟨_, _, ⟨rfl, rfl⟩, ⟨by first | rfl | exact gtb rfl (by simp only [h1, Bool.true_and, Bool.false_and, Bool.true_or, Bool.false_or, Bool.and_true, Bool.and_false, Bool.or_true, Bool.or_false, Bool.not_true, Bool.not_false]), trivial⟩, ⟨rfl, rfl⟩, _, (s_take (s_take (s_take (s_take (s_take (s_take (s_take (s_take (s_take s_nil)))))))))⟩
    · skip
      refine o_take rfl rfl rfl ?_
      refine o_T (y_move rfl) rfl ?_
      refine o_take rfl rfl rfl ?_
      refine o_T (y_nilck rfl) rfl ?_
      refine o_take rfl rfl rfl ?_
      refine o_T (y_fa fl_179_5 rfl) rfl ?_
      refine o_take rfl rfl rfl ?_
      refine o_ld one_3 rfl m0 (At.got (At.refl.comp Graph.a_nb)) rfl ?_
      refine o_take rfl rfl rfl ?_
      refine o_T (y_gtr rfl rfl) rfl ?_
      refine o_T (y_pickF rfl rfl) rfl ?_
      refine o_nil1 15 rfl rfl ?_
      refine ⟨_, _, ⟨rfl, rfl⟩, ⟨by first | rfl | exact gtb rfl (by simp only [h1, Bool.true_and, Bool.false_and, Bool.true_or, Bool.false_or, Bool.and_true, Bool.and_false, Bool.or_true, Bool.or_false, Bool.not_true, Bool.not_false]), trivial⟩, ⟨rfl, rfl⟩, _, (s_take (s_take (s_take (s_take (s_take (s_take (s_take (s_take (s_take s_nil)))))))))⟩
  · rintro sh G ⟨rfl, rfl⟩
    refine c_cond rfl (fun h2 => ?_) (fun h2 => ?_)
    · have hm := cd_t h2 hm
      refine c_seq ?_
      refine c_region ?_
      refine o_L (y_assign rfl) rfl rfl ?_
      refine o_nil0 rfl ?_
      refine c_ret ?_
      obtain rfl := p1 hm
      refine fun aX wX heX hsX => ret1 Tryz.results199 heX rfl (s_take (s_take (s_take (s_take (s_take (s_take (s_take (s_take (s_take s_nil))))))))) ?_
      exact ⟨rfl, rfl⟩
    · have hm := cd_f h2 hm
      refine c_skip ?_
      refine c_seq ?_
      refine c_seq ?_
      refine c_region ?_
      refine o_L (y_assign rfl) rfl rfl ?_
      refine o_nil0 rfl ?_
      obtain ⟨f1, F1, hF1, hj1, hF2⟩ := fl2 hm
      refine c_joinP (n := 0) (fun sh G => ∃ (c2 : Int), sh = [(3, .int .i64 c2)] ∧ G = [] ∧ F1 c2 = some rc1) (s_take (s_take (s_take (s_take (s_take (s_take (s_take (s_take (s_take s_nil))))))))) .z (fun _ _ h => h) ?_ ?_
      · skip
        refine c_block ?_
        refine c_loopP (n := 0) (fun mm sh G => ∃ (c1 : Int), sh = [(3, .int .i64 c1)] ∧ G = [] ∧ m199_w1 n g mm c1 = some f1) n (s_take (s_take (s_take (s_take (s_take (s_take (s_take (s_take (s_take s_nil))))))))) .z ⟨_, _, ⟨_, rfl, rfl, hj1⟩, ⟨rfl, trivial⟩, _, (s_take (s_take (s_take (s_take (s_take (s_take (s_take (s_take (s_take s_nil)))))))))⟩ ?_
        rintro mm sh G ⟨c1, rfl, rfl, hm⟩
        obtain ⟨mm1, rfl, hm⟩ := it1_s hm
        refine c_seq ?_
        refine c_seq ?_
        refine c_region ?_
        refine o_T (y_move rfl) rfl ?_
        refine o_T (y_move rfl) rfl ?_
        refine o_T (y_nilck rfl) rfl ?_
        refine o_T (y_fa fl_179_5 rfl) rfl ?_
        refine o_ld one_3 rfl m0 (At.got (At.refl.comp Graph.a_nb)) rfl ?_
        refine o_T (y_lss rfl rfl) rfl ?_
        refine o_nil1 21 rfl rfl ?_
        refine c_cond rfl (fun h3 => ?_) (fun h3 => ?_)
        · have hm := cd_t h3 hm
          refine c_skip ?_
          refine c_seq ?_
          refine c_block ?_
          refine c_seq ?_
          refine c_seq ?_
          refine c_region ?_
          refine o_T (y_move rfl) rfl ?_
          refine o_T (y_move rfl) rfl ?_
          refine o_T (y_nilck rfl) rfl ?_
          refine o_T (y_fa fl_179_4 rfl) rfl ?_
          obtain ⟨_, hx1, hm⟩ := bd hm
          have hx1 := ckA_some hx1
          refine o_T (y_ia ar_177 rfl rfl hx1.1 hx1.2) rfl ?_
          refine o_T (y_fa fl_176_0 rfl) rfl ?_
          refine o_ld one_9 rfl m0 (At.got (((At.refl.comp Graph.a_br).comp (encN_a Brn.len _ _ hx1.1 _ hx1.2)).comp Brn.a_name)) rfl ?_
          obtain ⟨c3, hx2, hm⟩ := bd1 hm
          refine o_callC en_136 rfl s_nil (t136 hx2) rfl (fun u1 S1 hR1 => ?_)
          obtain ⟨rfl, rfl⟩ := hR1
          refine o_rest ?_
          refine o_T (y_not rfl) rfl ?_
          refine o_nil1 32 rfl rfl ?_
          refine c_cond rfl (fun h4 => ?_) (fun h4 => ?_)
          · have hm := cd_t h4 hm
            refine c_seq ?_
            refine c_region ?_
            refine o_L (y_assign rfl) rfl rfl ?_
            refine o_nil0 rfl ?_
            refine c_ret ?_
            obtain ⟨q1, hq1, hm⟩ := bd hm
            have hm := fl_ret hm hF2
            have hm := hq1.trans hm
            obtain rfl := p1 hm
            refine fun aX wX heX hsX => ret1 Tryz.results199 heX rfl (s_take (s_take (s_take (s_take (s_take (s_take (s_take (s_take (s_take s_nil))))))))) ?_
            exact ⟨rfl, rfl⟩
          · have hm := cd_f h4 hm
            refine c_skip ?_
            refine c_seq ?_
            refine c_seq ?_
            refine c_region ?_
            refine o_T (y_move rfl) rfl ?_
            refine o_T (y_move rfl) rfl ?_
            refine o_T (y_move rfl) rfl ?_
            refine o_T (y_nilck rfl) rfl ?_
            refine o_T (y_fa fl_179_4 rfl) rfl ?_
            obtain ⟨_, hx3, hm⟩ := bd hm
            have hx3 := ckA_some hx3
            refine o_T (y_ia ar_177 rfl rfl hx3.1 hx3.2) rfl ?_
            refine o_T (y_fa fl_176_1 rfl) rfl ?_
            refine o_ld one_3 rfl m0 (At.got (((At.refl.comp Graph.a_br).comp (encN_a Brn.len _ _ hx3.1 _ hx3.2)).comp Brn.a_id)) rfl ?_
            obtain ⟨c4, hx4, hm⟩ := bd1 hm
            refine o_callC en_264 rfl (s_take s_nil) (t264 hx4) rfl (fun u2 S2 hR2 => ?_)
            obtain ⟨rfl, rfl⟩ := hR2
            refine o_rest ?_
            refine o_T (y_not rfl) rfl ?_
            refine o_nil1 42 rfl rfl ?_
            refine c_cond rfl (fun h5 => ?_) (fun h5 => ?_)
            · have hm := cd_t h5 hm
              refine c_seq ?_
              refine c_region ?_
              refine o_L (y_assign rfl) rfl rfl ?_
              refine o_nil0 rfl ?_
              refine c_ret ?_
              obtain ⟨q2, hq2, hm⟩ := bd hm
              have hm := fl_ret hm hF2
              have hm := hq2.trans hm
              obtain rfl := p1 hm
              refine fun aX wX heX hsX => ret1 Tryz.results199 heX rfl (s_take (s_take (s_take (s_take (s_take (s_take (s_take (s_take (s_take s_nil))))))))) ?_
              exact ⟨rfl, rfl⟩
            · have hm := cd_f h5 hm
              refine c_skip ?_
              refine c_seq ?_
              obtain ⟨c5, hj2, hm⟩ := bd1 hm
              refine c_joinP (n := 0) (fun sh G => sh = [(62, .bool c5)] ∧ G = []) Sel.all' .z (fun _ _ h => h) ?_ ?_
              · have hm := hj2
                refine c_draw #[true, true, true, true, true, true, true, true, true, true, true, true, true, true, true, true, true, true, true, true] rfl (n := 20) rfl ?_
                refine d_T 0 rfl sb_199_10_0 rfl (y_move rfl) rfl ?_
                refine d_T 1 rfl sb_199_10_1 rfl (y_gtr rfl rfl) rfl ?_
                refine d_T 2 rfl sb_199_10_2 rfl (y_move rfl) rfl ?_
                refine d_split 45 rfl (fun h6 => ?_) (fun h6 => ?_)
                · have hm := cd_t h6 hm
                  refine d_Tg 3 rfl rfl rfl rfl sb_199_10_3 rfl (y_move rfl) rfl ?_
                  refine d_Tg 4 rfl rfl rfl rfl sb_199_10_4 rfl (y_move rfl) rfl ?_
                  refine d_Tg 5 rfl rfl rfl rfl sb_199_10_5 rfl (y_sub rfl rfl rfl) rfl ?_
                  refine d_Tg 6 rfl rfl rfl rfl sb_199_10_6 rfl (y_nilck rfl) rfl ?_
                  refine d_Tg 7 rfl rfl rfl rfl sb_199_10_7 rfl (y_fa fl_179_4 rfl) rfl ?_
                  obtain ⟨_, hx5, hm⟩ := bd hm
                  have hx5 := ckA_some hx5
                  refine d_Tg 8 rfl rfl rfl rfl sb_199_10_8 rfl (y_ia ar_177 rfl rfl hx5.1 hx5.2) rfl ?_
                  refine d_Tg 9 rfl rfl rfl rfl sb_199_10_9 rfl (y_fa fl_176_0 rfl) rfl ?_
                  refine d_ldt 10 rfl rfl rfl rfl sb_199_10_10 one_9 rfl (fun x hx => hx) m0 (At.got (((At.refl.comp Graph.a_br).comp (encN_a Brn.len _ _ hx5.1 _ hx5.2)).comp Brn.a_name)) rfl ?_
                  refine d_Tg 11 rfl rfl rfl rfl sb_199_10_11 rfl (y_move rfl) rfl ?_
                  refine d_Tg 12 rfl rfl rfl rfl sb_199_10_12 rfl (y_move rfl) rfl ?_
                  refine d_Tg 13 rfl rfl rfl rfl sb_199_10_13 rfl (y_nilck rfl) rfl ?_
                  refine d_Tg 14 rfl rfl rfl rfl sb_199_10_14 rfl (y_fa fl_179_4 rfl) rfl ?_
                  obtain ⟨_, hx6, hm⟩ := bd hm
                  have hx6 := ckA_some hx6
                  refine d_Tg 15 rfl rfl rfl rfl sb_199_10_15 rfl (y_ia ar_177 rfl rfl hx6.1 hx6.2) rfl ?_
                  refine d_Tg 16 rfl rfl rfl rfl sb_199_10_16 rfl (y_fa fl_176_0 rfl) rfl ?_
                  refine d_ldt 17 rfl rfl rfl rfl sb_199_10_17 one_9 rfl (fun x hx => hx) m0 (At.got (((At.refl.comp Graph.a_br).comp (encN_a Brn.len _ _ hx6.1 _ hx6.2)).comp Brn.a_name)) rfl ?_
                  refine d_Tg 18 rfl rfl rfl rfl sb_199_10_18 rfl (y_sge rfl rfl) rfl ?_
                  refine d_T 19 rfl sb_199_10_19 rfl (y_pickT rfl rfl) rfl ?_
                  refine d_nil1 62 sb_199_10_20 rfl rfl ?_
                  obtain rfl := p1 hm
                  exact ⟨_, _, ⟨rfl, rfl⟩, ⟨rfl, trivial⟩, ⟨rfl, rfl⟩, _, (s_take (s_take (s_take (s_take (s_take (s_take (s_take (s_take (s_take s_nil)))))))))⟩
                · have hm := cd_f h6 hm
                  refine d_pass 3 rfl rfl rfl rfl rfl sb_199_10_3 (fun x hx => hx) rfl ?_
                  refine d_pass 4 rfl rfl rfl rfl rfl sb_199_10_4 (fun x hx => hx) rfl ?_
                  refine d_pass 5 rfl rfl rfl rfl rfl sb_199_10_5 (fun x hx => hx) rfl ?_
                  refine d_pass 6 rfl rfl rfl rfl rfl sb_199_10_6 (fun x hx => hx) rfl ?_
                  refine d_pass 7 rfl rfl rfl rfl rfl sb_199_10_7 (fun x hx => hx) rfl ?_
                  refine d_pass 8 rfl rfl rfl rfl rfl sb_199_10_8 (fun x hx => hx) rfl ?_
                  refine d_pass 9 rfl rfl rfl rfl rfl sb_199_10_9 (fun x hx => hx) rfl ?_
                  refine d_pass 10 rfl rfl rfl rfl rfl sb_199_10_10 (fun x hx => hx) rfl ?_
                  refine d_pass 11 rfl rfl rfl rfl rfl sb_199_10_11 (fun x hx => hx) rfl ?_
                  refine d_pass 12 rfl rfl rfl rfl rfl sb_199_10_12 (fun x hx => hx) rfl ?_
                  refine d_pass 13 rfl rfl rfl rfl rfl sb_199_10_13 (fun x hx => hx) rfl ?_
                  refine d_pass 14 rfl rfl rfl rfl rfl sb_199_10_14 (fun x hx => hx) rfl ?_
                  refine d_pass 15 rfl rfl rfl rfl rfl sb_199_10_15 (fun x hx => hx) rfl ?_
                  refine d_pass 16 rfl rfl rfl rfl rfl sb_199_10_16 (fun x hx => hx) rfl ?_
                  refine d_pass 17 rfl rfl rfl rfl rfl sb_199_10_17 (fun x hx => hx) rfl ?_
                  refine d_pass 18 rfl rfl rfl rfl rfl sb_199_10_18 (fun x hx => hx) rfl ?_
                  refine d_T 19 rfl sb_199_10_19 rfl (y_pickF rfl rfl) rfl ?_
                  refine d_nil1 62 sb_199_10_20 rfl rfl ?_
                  obtain rfl := p1 hm
                  exact ⟨_, _, ⟨rfl, rfl⟩, ⟨rfl, trivial⟩, ⟨rfl, rfl⟩, _, (s_take (s_take (s_take (s_take (s_take (s_take (s_take (s_take (s_take s_nil)))))))))⟩
              · rintro sh G ⟨rfl, rfl⟩
                refine c_cond rfl (fun h7 => ?_) (fun h7 => ?_)
                · have hm := cd_t h7 hm
                  refine c_seq ?_
                  refine c_region ?_
                  refine o_L (y_assign rfl) rfl rfl ?_
                  refine o_nil0 rfl ?_
                  refine c_ret ?_
                  obtain ⟨q3, hq3, hm⟩ := bd hm
                  have hm := fl_ret hm hF2
                  have hm := hq3.trans hm
                  obtain rfl := p1 hm
                  refine fun aX wX heX hsX => ret1 Tryz.results199 heX rfl (s_take (s_take (s_take (s_take (s_take (s_take (s_take (s_take (s_take s_nil))))))))) ?_
                  exact ⟨rfl, rfl⟩
                · have hm := cd_f h7 hm
                  refine c_skip ?_
                  refine c_region ?_
                  refine o_T (y_move rfl) rfl ?_
                  refine o_T (y_add rfl rfl rfl) rfl ?_
                  refine o_L (y_assign rfl) rfl rfl ?_
                  refine o_nil0 rfl ?_
                  exact ⟨mm1, Nat.lt_succ_self _, _, _, ⟨_, rfl, rfl, hm⟩, ⟨rfl, trivial⟩, ⟨rfl, rfl⟩, _, (s_take (s_take (s_take (s_take (s_take (s_take (s_take (s_take (s_take s_nil)))))))))⟩
        · have hm := cd_f h3 hm
          refine c_exit ?_
          have hm := fl_nx hm hF2
          exact ⟨_, _, ⟨_, rfl, rfl, hm⟩, ⟨rfl, trivial⟩, ⟨rfl, rfl⟩, _, (s_take (s_take (s_take (s_take (s_take (s_take (s_take (s_take (s_take s_nil)))))))))⟩
      · rintro sh G ⟨c2, rfl, rfl, hm⟩
        subst hF1
        refine c_seq ?_
        refine c_seq ?_
        refine c_region ?_
        refine o_T (y_move rfl) rfl ?_
        refine o_T (y_nilck rfl) rfl ?_
        refine o_T (y_fa fl_179_6 rfl) rfl ?_
        refine o_ld one_9 rfl m0 (At.got (At.refl.comp Graph.a_name)) rfl ?_
        refine o_T (y_sne rfl rfl) rfl ?_
        refine o_nil1 67 rfl rfl ?_
        obtain ⟨f2, F2, hF3, hj3, hF4⟩ := fl2 hm
        refine c_joinP (n := 0) (fun sh G => sh = [] ∧ G = [] ∧ F2 () = some rc1) (s_take (s_take (s_take (s_take (s_take (s_take (s_take (s_take (s_take s_nil))))))))) .z (fun _ _ h => h) ?_ ?_
        · have hm := hj3
          refine c_cond rfl (fun h8 => ?_) (fun h8 => ?_)
          · have hm := cd_t h8 hm
            refine c_seq ?_
            refine c_seq ?_
            refine c_region ?_
            refine o_T (y_move rfl) rfl ?_
            refine o_T (y_nilck rfl) rfl ?_
            refine o_T (y_fa fl_179_6 rfl) rfl ?_
            refine o_ld one_9 rfl m0 (At.got (At.refl.comp Graph.a_name)) rfl ?_
            obtain ⟨c6, hx7, hm⟩ := bd1 hm
            refine o_callC en_136 rfl s_nil (t136 hx7) rfl (fun u3 S3 hR3 => ?_)
            obtain ⟨rfl, rfl⟩ := hR3
            refine o_rest ?_
            refine o_T (y_not rfl) rfl ?_
            refine o_nil1 73 rfl rfl ?_
            refine c_cond rfl (fun h9 => ?_) (fun h9 => ?_)
            · have hm := cd_t h9 hm
              refine c_seq ?_
              refine c_region ?_
              refine o_L (y_assign rfl) rfl rfl ?_
              refine o_nil0 rfl ?_
              refine c_ret ?_
              obtain ⟨q4, hq4, hm⟩ := bd hm
              have hm := fl_ret hm hF4
              have hm := hq4.trans hm
              obtain rfl := p1 hm
              refine fun aX wX heX hsX => ret1 Tryz.results199 heX rfl (s_take (s_take (s_take (s_take (s_take (s_take (s_take (s_take (s_take s_nil))))))))) ?_
              exact ⟨rfl, rfl⟩
            · have hm := cd_f h9 hm
              refine c_skip ?_
              refine c_seq ?_
              refine c_region ?_
              refine o_T (y_move rfl) rfl ?_
              refine o_T (y_nilck rfl) rfl ?_
              refine o_T (y_fa fl_179_7 rfl) rfl ?_
              refine o_ld one_3 rfl m0 (At.got (At.refl.comp Graph.a_at_)) rfl ?_
              refine o_T (y_neq rfl rfl) rfl ?_
              refine o_nil1 78 rfl rfl ?_
              refine c_cond rfl (fun h10 => ?_) (fun h10 => ?_)
              · have hm := cd_t h10 hm
                refine c_seq ?_
                refine c_region ?_
                refine o_L (y_assign rfl) rfl rfl ?_
                refine o_nil0 rfl ?_
                refine c_ret ?_
                obtain ⟨q5, hq5, hm⟩ := bd hm
                have hm := fl_ret hm hF4
                have hm := hq5.trans hm
                obtain rfl := p1 hm
                refine fun aX wX heX hsX => ret1 Tryz.results199 heX rfl (s_take (s_take (s_take (s_take (s_take (s_take (s_take (s_take (s_take s_nil))))))))) ?_
                exact ⟨rfl, rfl⟩
              · have hm := cd_f h10 hm
                refine c_skip ?_
                have hm := fl_nx hm hF4
                exact ⟨_, _, ⟨rfl, rfl, hm⟩, trivial, ⟨rfl, rfl⟩, _, (s_take (s_take (s_take (s_take (s_take (s_take (s_take (s_take (s_take s_nil)))))))))⟩
          · have hm := cd_f h8 hm
            refine c_seq ?_
            refine c_region ?_
            refine o_T (y_move rfl) rfl ?_
            refine o_T (y_move rfl) rfl ?_
            refine o_T (y_nilck rfl) rfl ?_
            refine o_T (y_fa fl_179_7 rfl) rfl ?_
            refine o_ld one_3 rfl m0 (At.got (At.refl.comp Graph.a_at_)) rfl ?_
            obtain ⟨c7, hx8, hm⟩ := bd1 hm
            refine o_callC en_264 rfl (s_take s_nil) (t264 hx8) rfl (fun u4 S4 hR4 => ?_)
            obtain ⟨rfl, rfl⟩ := hR4
            refine o_rest ?_
            refine o_T (y_not rfl) rfl ?_
            refine o_nil1 85 rfl rfl ?_
            refine c_cond rfl (fun h11 => ?_) (fun h11 => ?_)
            · have hm := cd_t h11 hm
              refine c_seq ?_
              refine c_region ?_
              refine o_L (y_assign rfl) rfl rfl ?_
              refine o_nil0 rfl ?_
              refine c_ret ?_
              obtain ⟨q6, hq6, hm⟩ := bd hm
              have hm := fl_ret hm hF4
              have hm := hq6.trans hm
              obtain rfl := p1 hm
              refine fun aX wX heX hsX => ret1 Tryz.results199 heX rfl (s_take (s_take (s_take (s_take (s_take (s_take (s_take (s_take (s_take s_nil))))))))) ?_
              exact ⟨rfl, rfl⟩
            · have hm := cd_f h11 hm
              refine c_skip ?_
              have hm := fl_nx hm hF4
              exact ⟨_, _, ⟨rfl, rfl, hm⟩, trivial, ⟨rfl, rfl⟩, _, (s_take (s_take (s_take (s_take (s_take (s_take (s_take (s_take (s_take s_nil)))))))))⟩
        · rintro sh G ⟨rfl, rfl, hm⟩
          subst hF3
          refine c_seq ?_
          refine c_seq ?_
          refine c_region ?_
          refine o_T (y_move rfl) rfl ?_
          refine o_T (y_nilck rfl) rfl ?_
          refine o_T (y_fa fl_179_8 rfl) rfl ?_
          refine o_ld one_3 rfl m0 (At.got (At.refl.comp Graph.a_merge)) rfl ?_
          refine o_T (y_neq rfl rfl) rfl ?_
          refine o_nil1 90 rfl rfl ?_
          refine c_cond rfl (fun h12 => ?_) (fun h12 => ?_)
          · have hm := cd_t h12 hm
            refine c_seq ?_
            refine c_region ?_
            refine o_T (y_move rfl) rfl ?_
            refine o_T (y_move rfl) rfl ?_
            refine o_T (y_nilck rfl) rfl ?_
            refine o_T (y_fa fl_179_8 rfl) rfl ?_
            refine o_ld one_3 rfl m0 (At.got (At.refl.comp Graph.a_merge)) rfl ?_
            obtain ⟨c8, hx9, hm⟩ := bd1 hm
            refine o_callC en_264 rfl (s_take s_nil) (t264 hx9) rfl (fun u5 S5 hR5 => ?_)
            obtain ⟨rfl, rfl⟩ := hR5
            refine o_rest ?_
            refine o_T (y_not rfl) rfl ?_
            refine o_nil1 97 rfl rfl ?_
            refine c_cond rfl (fun h13 => ?_) (fun h13 => ?_)
            · have hm := cd_t h13 hm
              refine c_seq ?_
              refine c_region ?_
              refine o_L (y_assign rfl) rfl rfl ?_
              refine o_nil0 rfl ?_
              refine c_ret ?_
              obtain rfl := p1 hm
              refine fun aX wX heX hsX => ret1 Tryz.results199 heX rfl (s_take (s_take (s_take (s_take (s_take (s_take (s_take (s_take (s_take s_nil))))))))) ?_
              exact ⟨rfl, rfl⟩
            · have hm := cd_f h13 hm
              refine c_skip ?_
              refine c_seq ?_
              refine c_region ?_
              refine o_T (y_move rfl) rfl ?_
              refine o_T (y_move rfl) rfl ?_
              refine o_T (y_nilck rfl) rfl ?_
              refine o_T (y_fa fl_179_9 rfl) rfl ?_
              refine o_ld one_3 rfl m0 (At.got (At.refl.comp Graph.a_aux)) rfl ?_
              obtain ⟨c9, hx10, hm⟩ := bd1 hm
              refine o_callC en_265 rfl (s_take (s_take (s_take (s_take (s_take (s_take (s_take (s_take s_nil)))))))) (t265 ho1 ho2 ho3 ho4 hx10) rfl (fun u6 S6 hR6 => ?_)
              obtain ⟨rfl, rfl⟩ := hR6
              refine o_rest ?_
              refine o_L (y_assign rfl) rfl rfl ?_
              refine o_nil0 rfl ?_
              refine c_ret ?_
              obtain rfl := p1 hm
              refine fun aX wX heX hsX => ret1 Tryz.results199 heX rfl (s_take (s_take (s_take (s_take (s_take (s_take (s_take (s_take (s_take s_nil))))))))) ?_
              exact ⟨rfl, rfl⟩
          · have hm := cd_f h12 hm
            refine c_skip ?_
            refine c_seq ?_
            refine c_region ?_
            refine o_T (y_move rfl) rfl ?_
            refine o_T (y_move rfl) rfl ?_
            refine o_T (y_nilck rfl) rfl ?_
            refine o_T (y_fa fl_179_9 rfl) rfl ?_
            refine o_ld one_3 rfl m0 (At.got (At.refl.comp Graph.a_aux)) rfl ?_
            obtain ⟨c10, hx11, hm⟩ := bd1 hm
            refine o_callC en_265 rfl (s_take (s_take (s_take (s_take (s_take (s_take (s_take (s_take s_nil)))))))) (t265 ho1 ho2 ho3 ho4 hx11) rfl (fun u7 S7 hR7 => ?_)
            obtain ⟨rfl, rfl⟩ := hR7
            refine o_rest ?_
            refine o_L (y_assign rfl) rfl rfl ?_
            refine o_nil0 rfl ?_
            refine c_ret ?_
            obtain rfl := p1 hm
            refine fun aX wX heX hsX => ret1 Tryz.results199 heX rfl (s_take (s_take (s_take (s_take (s_take (s_take (s_take (s_take (s_take s_nil))))))))) ?_
            exact ⟨rfl, rfl⟩
end Go.Proofs.Qxb6500350aGreat
