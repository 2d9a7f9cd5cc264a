/- MADE BY PROGRAM (tools350/mir.py): mirror and walk. -/
import Derived.Test.Qxb6500350aGreatF2
import Derived.Test.Qxb6500350aGreatT273
import Derived.Test.Qxb6500350aGreatT283
set_option linter.unusedVariables false
set_option linter.unusedSimpArgs false
set_option maxRecDepth 20000
set_option maxHeartbeats 4000000
namespace Go.Proofs.Qxb6500350aGreat
open Go.Eng

def op_234_5 : Array Go.Oper := #[{ dst := some 25, op := Go.Op.move (Go.Operand.tmp 3), type := 81, pos := "code.go:89", after := #[], guard := none }, { dst := some 26, op := Go.Op.move (Go.Operand.tmp 0), type := 30, pos := "code.go:89", after := #[], guard := none }, { dst := some 27, op := Go.Op.nilCheck (Go.Operand.tmp 26), type := 0, pos := "code.go:89", after := #[{ on := 1, ground := Go.Ground.data }], guard := none }, { dst := some 28, op := Go.Op.fieldAddr 179 (Go.Operand.tmp 27) 7, type := 0, pos := "code.go:89", after := #[{ on := 2, ground := Go.Ground.data }], guard := none }, { dst := some 29, op := Go.Op.load 3 (Go.Operand.tmp 28), type := 3, pos := "code.go:89", after := #[{ on := 3, ground := Go.Ground.data }], guard := none }, { dst := some 30, op := Go.Op.convert 3 5 (Go.Operand.tmp 29), type := 5, pos := "code.go:89", after := #[{ on := 4, ground := Go.Ground.data }], guard := none }, { dst := some 31, op := Go.Op.move (Go.Operand.tmp 0), type := 30, pos := "code.go:89", after := #[], guard := none }, { dst := some 32, op := Go.Op.nilCheck (Go.Operand.tmp 31), type := 0, pos := "code.go:89", after := #[{ on := 6, ground := Go.Ground.data }], guard := none }, { dst := some 33, op := Go.Op.fieldAddr 179 (Go.Operand.tmp 32) 8, type := 0, pos := "code.go:89", after := #[{ on := 7, ground := Go.Ground.data }], guard := none }, { dst := some 34, op := Go.Op.load 3 (Go.Operand.tmp 33), type := 3, pos := "code.go:89", after := #[{ on := 8, ground := Go.Ground.data }], guard := none }, { dst := some 35, op := Go.Op.convert 3 5 (Go.Operand.tmp 34), type := 5, pos := "code.go:89", after := #[{ on := 9, ground := Go.Ground.data }], guard := none }, { dst := some 36, op := Go.Op.move (Go.Operand.tmp 0), type := 30, pos := "code.go:89", after := #[], guard := none }, { dst := some 37, op := Go.Op.nilCheck (Go.Operand.tmp 36), type := 0, pos := "code.go:89", after := #[{ on := 11, ground := Go.Ground.data }], guard := none }, { dst := some 38, op := Go.Op.fieldAddr 179 (Go.Operand.tmp 37) 5, type := 0, pos := "code.go:89", after := #[{ on := 12, ground := Go.Ground.data }], guard := none }, { dst := some 39, op := Go.Op.load 3 (Go.Operand.tmp 38), type := 3, pos := "code.go:89", after := #[{ on := 13, ground := Go.Ground.data }], guard := none }, { dst := some 40, op := Go.Op.convert 3 5 (Go.Operand.tmp 39), type := 5, pos := "code.go:89", after := #[{ on := 14, ground := Go.Ground.data }], guard := none }, { dst := some 41, op := Go.Op.buildSlice 81 3 #[(0, Go.Operand.tmp 30), (1, Go.Operand.tmp 35), (2, Go.Operand.tmp 40)], type := 81, pos := "code.go:89", after := #[{ on := 5, ground := Go.Ground.data }, { on := 10, ground := Go.Ground.data }, { on := 15, ground := Go.Ground.data }], guard := none }, { dst := some 42, op := Go.Op.call { callee := Go.Callee.builtin Go.Builtin.append, args := #[Go.Operand.tmp 25, Go.Operand.tmp 41], argTypes := #[81, 81] }, type := 81, pos := "code.go:89", after := #[{ on := 0, ground := Go.Ground.data }, { on := 16, ground := Go.Ground.data }], guard := none }, { dst := some 3, op := Go.Op.assign (Go.Operand.tmp 42), type := 81, pos := "code.go:89", after := #[{ on := 17, ground := Go.Ground.data }, { on := 17, ground := Go.Ground.chain }, { on := 0, ground := Go.Ground.phase }, { on := 1, ground := Go.Ground.phase }, { on := 2, ground := Go.Ground.phase }, { on := 3, ground := Go.Ground.phase }, { on := 4, ground := Go.Ground.phase }, { on := 5, ground := Go.Ground.phase }, { on := 6, ground := Go.Ground.phase }, { on := 7, ground := Go.Ground.phase }, { on := 8, ground := Go.Ground.phase }, { on := 9, ground := Go.Ground.phase }, { on := 10, ground := Go.Ground.phase }, { on := 11, ground := Go.Ground.phase }, { on := 12, ground := Go.Ground.phase }, { on := 13, ground := Go.Ground.phase }, { on := 14, ground := Go.Ground.phase }, { on := 15, ground := Go.Ground.phase }, { on := 16, ground := Go.Ground.phase }, { on := 17, ground := Go.Ground.phase }], guard := none }]
theorem sb_234_5_0 : softB op_234_5 #[true, true, true, true, true, true, true, true, true, true, true, true, true, true, true, true, true, false, true] (Array.replicate 19 false) 0 = true := by kernel_rfl
theorem sb_234_5_1 : softB op_234_5 #[true, true, true, true, true, true, true, true, true, true, true, true, true, true, true, true, true, false, true] ((Array.replicate 19 false).setIfInBounds 0 true) 1 = true := by kernel_rfl
theorem sb_234_5_2 : softB op_234_5 #[true, true, true, true, true, true, true, true, true, true, true, true, true, true, true, true, true, false, true] (((Array.replicate 19 false).setIfInBounds 0 true).setIfInBounds 1 true) 2 = true := by kernel_rfl
theorem sb_234_5_3 : softB op_234_5 #[true, true, true, true, true, true, true, true, true, true, true, true, true, true, true, true, true, false, true] ((((Array.replicate 19 false).setIfInBounds 0 true).setIfInBounds 1 true).setIfInBounds 2 true) 3 = true := by kernel_rfl
theorem sb_234_5_4 : softB op_234_5 #[true, true, true, true, true, true, true, true, true, true, true, true, true, true, true, true, true, false, true] (((((Array.replicate 19 false).setIfInBounds 0 true).setIfInBounds 1 true).setIfInBounds 2 true).setIfInBounds 3 true) 4 = true := by kernel_rfl
theorem sb_234_5_5 : softB op_234_5 #[true, true, true, true, true, true, true, true, true, true, true, true, true, true, true, true, true, false, true] ((((((Array.replicate 19 false).setIfInBounds 0 true).setIfInBounds 1 true).setIfInBounds 2 true).setIfInBounds 3 true).setIfInBounds 4 true) 5 = true := by kernel_rfl
theorem sb_234_5_6 : softB op_234_5 #[true, true, true, true, true, true, true, true, true, true, true, true, true, true, true, true, true, false, true] (((((((Array.replicate 19 false).setIfInBounds 0 true).setIfInBounds 1 true).setIfInBounds 2 true).setIfInBounds 3 true).setIfInBounds 4 true).setIfInBounds 5 true) 6 = true := by kernel_rfl
theorem sb_234_5_7 : softB op_234_5 #[true, true, true, true, true, true, true, true, true, true, true, true, true, true, true, true, true, false, true] ((((((((Array.replicate 19 false).setIfInBounds 0 true).setIfInBounds 1 true).setIfInBounds 2 true).setIfInBounds 3 true).setIfInBounds 4 true).setIfInBounds 5 true).setIfInBounds 6 true) 7 = true := by kernel_rfl
theorem sb_234_5_8 : softB op_234_5 #[true, true, true, true, true, true, true, true, true, true, true, true, true, true, true, true, true, false, true] (((((((((Array.replicate 19 false).setIfInBounds 0 true).setIfInBounds 1 true).setIfInBounds 2 true).setIfInBounds 3 true).setIfInBounds 4 true).setIfInBounds 5 true).setIfInBounds 6 true).setIfInBounds 7 true) 8 = true := by kernel_rfl
theorem sb_234_5_9 : softB op_234_5 #[true, true, true, true, true, true, true, true, true, true, true, true, true, true, true, true, true, false, true] ((((((((((Array.replicate 19 false).setIfInBounds 0 true).setIfInBounds 1 true).setIfInBounds 2 true).setIfInBounds 3 true).setIfInBounds 4 true).setIfInBounds 5 true).setIfInBounds 6 true).setIfInBounds 7 true).setIfInBounds 8 true) 9 = true := by kernel_rfl
theorem sb_234_5_10 : softB op_234_5 #[true, true, true, true, true, true, true, true, true, true, true, true, true, true, true, true, true, false, true] (((((((((((Array.replicate 19 false).setIfInBounds 0 true).setIfInBounds 1 true).setIfInBounds 2 true).setIfInBounds 3 true).setIfInBounds 4 true).setIfInBounds 5 true).setIfInBounds 6 true).setIfInBounds 7 true).setIfInBounds 8 true).setIfInBounds 9 true) 10 = true := by kernel_rfl
theorem sb_234_5_11 : softB op_234_5 #[true, true, true, true, true, true, true, true, true, true, true, true, true, true, true, true, true, false, true] ((((((((((((Array.replicate 19 false).setIfInBounds 0 true).setIfInBounds 1 true).setIfInBounds 2 true).setIfInBounds 3 true).setIfInBounds 4 true).setIfInBounds 5 true).setIfInBounds 6 true).setIfInBounds 7 true).setIfInBounds 8 true).setIfInBounds 9 true).setIfInBounds 10 true) 11 = true := by kernel_rfl
theorem sb_234_5_12 : softB op_234_5 #[true, true, true, true, true, true, true, true, true, true, true, true, true, true, true, true, true, false, true] (((((((((((((Array.replicate 19 false).setIfInBounds 0 true).setIfInBounds 1 true).setIfInBounds 2 true).setIfInBounds 3 true).setIfInBounds 4 true).setIfInBounds 5 true).setIfInBounds 6 true).setIfInBounds 7 true).setIfInBounds 8 true).setIfInBounds 9 true).setIfInBounds 10 true).setIfInBounds 11 true) 12 = true := by kernel_rfl
theorem sb_234_5_13 : softB op_234_5 #[true, true, true, true, true, true, true, true, true, true, true, true, true, true, true, true, true, false, true] ((((((((((((((Array.replicate 19 false).setIfInBounds 0 true).setIfInBounds 1 true).setIfInBounds 2 true).setIfInBounds 3 true).setIfInBounds 4 true).setIfInBounds 5 true).setIfInBounds 6 true).setIfInBounds 7 true).setIfInBounds 8 true).setIfInBounds 9 true).setIfInBounds 10 true).setIfInBounds 11 true).setIfInBounds 12 true) 13 = true := by kernel_rfl
theorem sb_234_5_14 : softB op_234_5 #[true, true, true, true, true, true, true, true, true, true, true, true, true, true, true, true, true, false, true] (((((((((((((((Array.replicate 19 false).setIfInBounds 0 true).setIfInBounds 1 true).setIfInBounds 2 true).setIfInBounds 3 true).setIfInBounds 4 true).setIfInBounds 5 true).setIfInBounds 6 true).setIfInBounds 7 true).setIfInBounds 8 true).setIfInBounds 9 true).setIfInBounds 10 true).setIfInBounds 11 true).setIfInBounds 12 true).setIfInBounds 13 true) 14 = true := by kernel_rfl
theorem sb_234_5_15 : softB op_234_5 #[true, true, true, true, true, true, true, true, true, true, true, true, true, true, true, true, true, false, true] ((((((((((((((((Array.replicate 19 false).setIfInBounds 0 true).setIfInBounds 1 true).setIfInBounds 2 true).setIfInBounds 3 true).setIfInBounds 4 true).setIfInBounds 5 true).setIfInBounds 6 true).setIfInBounds 7 true).setIfInBounds 8 true).setIfInBounds 9 true).setIfInBounds 10 true).setIfInBounds 11 true).setIfInBounds 12 true).setIfInBounds 13 true).setIfInBounds 14 true) 15 = true := by kernel_rfl
theorem sb_234_5_16 : hardB op_234_5 (((((((((((((((((Array.replicate 19 false).setIfInBounds 0 true).setIfInBounds 1 true).setIfInBounds 2 true).setIfInBounds 3 true).setIfInBounds 4 true).setIfInBounds 5 true).setIfInBounds 6 true).setIfInBounds 7 true).setIfInBounds 8 true).setIfInBounds 9 true).setIfInBounds 10 true).setIfInBounds 11 true).setIfInBounds 12 true).setIfInBounds 13 true).setIfInBounds 14 true).setIfInBounds 15 true) [16] = true := by kernel_rfl
theorem sb_234_5_17 : hardB op_234_5 ((((((((((((((((((Array.replicate 19 false).setIfInBounds 0 true).setIfInBounds 1 true).setIfInBounds 2 true).setIfInBounds 3 true).setIfInBounds 4 true).setIfInBounds 5 true).setIfInBounds 6 true).setIfInBounds 7 true).setIfInBounds 8 true).setIfInBounds 9 true).setIfInBounds 10 true).setIfInBounds 11 true).setIfInBounds 12 true).setIfInBounds 13 true).setIfInBounds 14 true).setIfInBounds 15 true).setIfInBounds 16 true) [17] = true := by kernel_rfl
theorem sb_234_5_18 : softB op_234_5 #[true, true, true, true, true, true, true, true, true, true, true, true, true, true, true, true, true, false, true] (((((((((((((((((((Array.replicate 19 false).setIfInBounds 0 true).setIfInBounds 1 true).setIfInBounds 2 true).setIfInBounds 3 true).setIfInBounds 4 true).setIfInBounds 5 true).setIfInBounds 6 true).setIfInBounds 7 true).setIfInBounds 8 true).setIfInBounds 9 true).setIfInBounds 10 true).setIfInBounds 11 true).setIfInBounds 12 true).setIfInBounds 13 true).setIfInBounds 14 true).setIfInBounds 15 true).setIfInBounds 16 true).setIfInBounds 17 true) 18 = true := by kernel_rfl
theorem sb_234_5_19 : hardB op_234_5 ((((((((((((((((((((Array.replicate 19 false).setIfInBounds 0 true).setIfInBounds 1 true).setIfInBounds 2 true).setIfInBounds 3 true).setIfInBounds 4 true).setIfInBounds 5 true).setIfInBounds 6 true).setIfInBounds 7 true).setIfInBounds 8 true).setIfInBounds 9 true).setIfInBounds 10 true).setIfInBounds 11 true).setIfInBounds 12 true).setIfInBounds 13 true).setIfInBounds 14 true).setIfInBounds 15 true).setIfInBounds 16 true).setIfInBounds 17 true).setIfInBounds 18 true) [] = true := by kernel_rfl
/- (*graph.Graph).refsBytes -/
def m234_w1 (n : Nat) (g : Graph) (mm : Nat) : (List UInt8) → Int → Option ((List UInt8) × Int) := it2 (fun lp1 l5 c1 =>
cond (decide (c1 < g.nb)) (
Option.bind (ckA c1 4) fun _ =>
ob1 (m283 n l5 ((g.br c1).name)) fun l7 =>
Option.bind (ckA c1 4) fun _ =>
Option.bind (apd l7 (u8 ((g.br c1).id))) fun l8 =>
lp1 l8 (wi (c1 + 1))) (
some (l5, c1))) mm
def m234 (n : Nat) (g : Graph) : Option ((List UInt8)) :=
ob1 (m273 n ([] : List UInt8) g.nxt) fun l1 =>
Option.bind (apd l1 (u8 g.aux)) fun l2 =>
ob1 (m283 n l2 g.name) fun l3 =>
Option.bind (apds l3 ([(u8 g.at_), (u8 g.merge), (u8 g.nb)] : List UInt8)) fun l4 =>
ob2 (m234_w1 n g n l4 0) fun l6 c2 =>
some l6
theorem t234 {n : Nat} {C : List Chunk} {rl1 : List UInt8} {b1 : Nat} {g : Graph} {q1 : Option Addr}   (hm : m234 n g = some rl1) : Trip Tryz.prog 234 #[.pointer (some ⟨b1, 0, none⟩)] ([[(b1, .cells (Graph.enc ((.pointer q1)) g).toArray 179 (0, 0))]] ++ [C]) (fun u S' => ∃ (ev1 : Value), ∃ (eg1 : List Chunk), ev1 = u ∧ S' = [[(b1, .cells (Graph.enc ((.pointer q1)) g).toArray 179 (0, 0))], eg1] ++ [C] ∧ Own rByte ev1 rl1 eg1) := by
  refine fn_entry (args := [.pointer (some ⟨b1, 0, none⟩)]) Tryz.func234 rfl Tryz.ntmps234 rfl (fun w0 => ?_)
  refine c_seq ?_
  refine c_region ?_
  have ho1 : Own rByte (.slice none 0 0) [] [] := Own.nil
  refine o_emp ?_
  refine o_L (y_assign rfl) rfl rfl ?_
  refine o_nil0 rfl ?_
  refine c_seq ?_
  refine c_region ?_
  have ho2 : Own rByte (.slice none 0 0) [] [] := Own.nil
  refine o_emp ?_
  refine o_L (y_assign rfl) rfl rfl ?_
  refine o_nil0 rfl ?_
  refine c_seq ?_
  refine c_region ?_
  refine o_T (y_move rfl) rfl ?_
  refine o_T (y_move rfl) rfl ?_
  refine o_T (y_nilck rfl) rfl ?_
  refine o_T (y_fa fl_179_10 rfl) rfl ?_
  refine o_ld one_3 rfl (ms (ms m0)) (At.got (At.refl.comp Graph.a_nxt)) rfl ?_
  obtain ⟨l1, hx1, hm⟩ := bd1 hm
  refine o_callC en_273 rfl (s_take s_nil) (t273 ho2 hx1) rfl (fun u1 S1 hR1 => ?_)
  obtain ⟨v1, g1, rfl, rfl, ho3⟩ := hR1
  refine o_rest ?_
  refine o_L (y_assign rfl) rfl rfl ?_
  refine o_nil0 rfl ?_
  refine c_seq ?_
  refine c_region ?_
  refine o_T (y_move rfl) rfl ?_
  refine o_T (y_move rfl) rfl ?_
  refine o_T (y_nilck rfl) rfl ?_
  refine o_T (y_fa fl_179_9 rfl) rfl ?_
  refine o_ld one_3 rfl (ms (ms m0)) (At.got (At.refl.comp Graph.a_aux)) rfl ?_
  refine o_T (y_conv Tryz.underlying3 Tryz.underlying5 rfl (u8_eq _)) rfl ?_
  refine o_bs1 sz_81 rfl rfl rfl rfl rfl rfl (fun b2 => ?_)
  obtain ⟨l2, hx2, hm⟩ := bd hm
  refine o_appR (R := rByte) (a := (u8 g.aux)) sz_81 rfl rfl rfl rfl ho3 rfl hx2 (Sel.e (s_get (ks k0) (s_take s_nil))) rfl (fun v2 g2 ho4 => ?_)
  refine o_L (y_assign rfl) rfl rfl ?_
  refine o_nil0 rfl ?_
  refine c_seq ?_
  refine c_region ?_
  refine o_T (y_move rfl) rfl ?_
  refine o_T (y_move rfl) rfl ?_
  refine o_T (y_nilck rfl) rfl ?_
  refine o_T (y_fa fl_179_6 rfl) rfl ?_
  refine o_ld one_9 rfl (ms (ms m0)) (At.got (At.refl.comp Graph.a_name)) rfl ?_
  obtain ⟨l3, hx3, hm⟩ := bd1 hm
  refine o_callC en_283 rfl (s_take s_nil) (t283 ho4 hx3) rfl (fun u2 S2 hR2 => ?_)
  obtain ⟨v3, g3, rfl, rfl, ho5⟩ := hR2
  refine o_rest ?_
  refine o_L (y_assign rfl) rfl rfl ?_
  refine o_nil0 rfl ?_
  refine c_seq ?_
  refine c_draw #[true, true, true, true, true, true, true, true, true, true, true, true, true, true, true, true, true, false, true] rfl (n := 19) rfl ?_
  refine d_T 0 rfl sb_234_5_0 rfl (y_move rfl) rfl ?_
  refine d_T 1 rfl sb_234_5_1 rfl (y_move rfl) rfl ?_
  refine d_T 2 rfl sb_234_5_2 rfl (y_nilck rfl) rfl ?_
  refine d_T 3 rfl sb_234_5_3 rfl (y_fa fl_179_7 rfl) rfl ?_
  refine d_ld 4 rfl sb_234_5_4 one_3 rfl (fun x hx => hx) (ms (ms m0)) (At.got (At.refl.comp Graph.a_at_)) rfl ?_
  refine d_cv 5 rfl sb_234_5_5 (fun x hx => hx) (y_conv Tryz.underlying3 Tryz.underlying5 rfl (u8_eq _)) rfl ?_
  refine d_T 6 rfl sb_234_5_6 rfl (y_move rfl) rfl ?_
  refine d_T 7 rfl sb_234_5_7 rfl (y_nilck rfl) rfl ?_
  refine d_T 8 rfl sb_234_5_8 rfl (y_fa fl_179_8 rfl) rfl ?_
  refine d_ld 9 rfl sb_234_5_9 one_3 rfl (fun x hx => hx) (ms (ms m0)) (At.got (At.refl.comp Graph.a_merge)) rfl ?_
  refine d_cv 10 rfl sb_234_5_10 (fun x hx => hx) (y_conv Tryz.underlying3 Tryz.underlying5 rfl (u8_eq _)) rfl ?_
  refine d_T 11 rfl sb_234_5_11 rfl (y_move rfl) rfl ?_
  refine d_T 12 rfl sb_234_5_12 rfl (y_nilck rfl) rfl ?_
  refine d_T 13 rfl sb_234_5_13 rfl (y_fa fl_179_5 rfl) rfl ?_
  refine d_ld 14 rfl sb_234_5_14 one_3 rfl (fun x hx => hx) (ms (ms m0)) (At.got (At.refl.comp Graph.a_nb)) rfl ?_
  refine d_cv 15 rfl sb_234_5_15 (fun x hx => hx) (y_conv Tryz.underlying3 Tryz.underlying5 rfl (u8_eq _)) rfl ?_
  refine d_hard 16 rfl sb_234_5_16 ?_
  refine o_lit3 (R := rByte) sz_81 rfl rfl rfl rfl (show rByte.rd [] [.int .u8 ((u8 g.at_).toNat : Int)] (u8 g.at_) from rfl) (show rByte.rd [] [.int .u8 ((u8 g.merge).toNat : Int)] (u8 g.merge) from rfl) (show rByte.rd [] [.int .u8 ((u8 g.nb).toNat : Int)] (u8 g.nb) from rfl) rfl (fun b3 => ?_)
  refine o_stop (fun _ => (fun x hx => (ms hx))) ?_
  refine d_hard 17 rfl sb_234_5_17 ?_
  obtain ⟨l4, hx4, hm⟩ := bd hm
  refine o_appRs (R := rByte) (m := [(u8 g.at_), (u8 g.merge), (u8 g.nb)]) sz_81 rfl rfl rfl rfl ho5 ⟨[_], _, rfl, rfl, ⟨[_], _, rfl, rfl, ⟨[_], _, rfl, rfl, rfl⟩⟩⟩ rfl (Nat.le_refl _) hx4 (s_get (ks k0) (s_take s_nil)) rfl (fun v4 g4 ho6 => ?_)
  refine o_stop (fun h => nomatch h) ?_
  refine d_L 18 rfl sb_234_5_18 rfl (y_assign rfl) rfl rfl ?_
  refine d_nil0 sb_234_5_19 rfl ?_
  refine c_seq ?_
  refine c_seq ?_
  refine c_region ?_
  refine o_L (y_assign rfl) rfl rfl ?_
  refine o_nil0 rfl ?_
  obtain ⟨l6, c2, hj1, hm⟩ := bd2 hm
  refine c_joinP (n := 1) (fun sh G => ∃ (v6 : Value), ∃ (g6 : List Chunk), sh = [(3, v6), (4, .int .i64 c2)] ∧ G = [g6] ∧ Own rByte v6 l6 g6) (s_take (s_skip (s_take (s_take s_nil)))) (.s .z) (fun _ _ h => h) ?_ ?_
  · skip
    refine c_block ?_
    refine c_loopP (n := 1) (fun mm sh G => ∃ (l5 : List UInt8), ∃ (c1 : Int), ∃ (v5 : Value), ∃ (g5 : List Chunk), sh = [(3, v5), (4, .int .i64 c1)] ∧ G = [g5] ∧ m234_w1 n g mm l5 c1 = some (l6, c2) ∧ Own rByte v5 l5 g5) n (s_take (s_skip (s_take (s_take s_nil)))) (.s .z) ⟨_, _, ⟨_, _, v4, _, rfl, rfl, hj1, ho6⟩, ⟨rfl, rfl, trivial⟩, _, (s_take (s_skip (s_take (s_take s_nil))))⟩ ?_
    rintro mm sh G ⟨l5, c1, v5, g5, rfl, rfl, hm, ho7⟩
    obtain ⟨mm1, rfl, hm⟩ := it2_s hm
    refine c_seq ?_
    refine c_seq ?_
    refine c_region ?_
    refine o_T (y_move rfl) rfl ?_
    refine o_T (y_move rfl) rfl ?_
    refine o_T (y_nilck rfl) rfl ?_
    refine o_T (y_fa fl_179_5 rfl) rfl ?_
    refine o_ld one_3 rfl (ms m0) (At.got (At.refl.comp Graph.a_nb)) rfl ?_
    refine o_T (y_lss rfl rfl) rfl ?_
    refine o_nil1 48 rfl rfl ?_
    refine c_cond rfl (fun h1 => ?_) (fun h1 => ?_)
    · have hm := cd_t h1 hm
      refine c_skip ?_
      refine c_seq ?_
      refine c_block ?_
      refine c_seq ?_
      refine c_region ?_
      refine o_T (y_move rfl) rfl ?_
      refine o_T (y_move rfl) rfl ?_
      refine o_T (y_move rfl) rfl ?_
      refine o_T (y_nilck rfl) rfl ?_
      refine o_T (y_fa fl_179_4 rfl) rfl ?_
      obtain ⟨_, hx5, hm⟩ := bd hm
      have hx5 := ckA_some hx5
      refine o_T (y_ia ar_177 rfl rfl hx5.1 hx5.2) rfl ?_
      refine o_T (y_fa fl_176_0 rfl) rfl ?_
      refine o_ld one_9 rfl (ms m0) (At.got (((At.refl.comp Graph.a_br).comp (encN_a Brn.len _ _ hx5.1 _ hx5.2)).comp Brn.a_name)) rfl ?_
      obtain ⟨l7, hx6, hm⟩ := bd1 hm
      refine o_callC en_283 rfl (s_take s_nil) (t283 ho7 hx6) rfl (fun u3 S3 hR3 => ?_)
      obtain ⟨v7, g7, rfl, rfl, ho9⟩ := hR3
      refine o_rest ?_
      refine o_L (y_assign rfl) rfl rfl ?_
      refine o_nil0 rfl ?_
      refine c_region ?_
      refine o_T (y_move rfl) rfl ?_
      refine o_T (y_move rfl) rfl ?_
      refine o_T (y_move rfl) rfl ?_
      refine o_T (y_nilck rfl) rfl ?_
      refine o_T (y_fa fl_179_4 rfl) rfl ?_
      obtain ⟨_, hx7, hm⟩ := bd hm
      have hx7 := ckA_some hx7
      refine o_T (y_ia ar_177 rfl rfl hx7.1 hx7.2) rfl ?_
      refine o_T (y_fa fl_176_1 rfl) rfl ?_
      refine o_ld one_3 rfl (ms m0) (At.got (((At.refl.comp Graph.a_br).comp (encN_a Brn.len _ _ hx7.1 _ hx7.2)).comp Brn.a_id)) rfl ?_
      refine o_T (y_conv Tryz.underlying3 Tryz.underlying5 rfl (u8_eq _)) rfl ?_
      refine o_bs1 sz_81 rfl rfl rfl rfl rfl rfl (fun b4 => ?_)
      obtain ⟨l8, hx8, hm⟩ := bd hm
      refine o_appR (R := rByte) (a := (u8 ((g.br c1).id))) sz_81 rfl rfl rfl rfl ho9 rfl hx8 (Sel.e (s_get (ks k0) (s_take s_nil))) rfl (fun v8 g8 ho10 => ?_)
      refine o_L (y_assign rfl) rfl rfl ?_
      refine o_nil0 rfl ?_
      refine c_region ?_
      refine o_T (y_move rfl) rfl ?_
      refine o_T (y_add rfl rfl rfl) rfl ?_
      refine o_L (y_assign rfl) rfl rfl ?_
      refine o_nil0 rfl ?_
      exact ⟨mm1, Nat.lt_succ_self _, _, _, ⟨_, _, v8, _, rfl, rfl, hm, ho10⟩, ⟨rfl, rfl, trivial⟩, ⟨rfl, rfl⟩, _, (s_take (s_take (s_take s_nil)))⟩
    · have hm := cd_f h1 hm
      refine c_exit ?_
      obtain ⟨rfl, rfl⟩ := pr2 hm
      exact ⟨_, _, ⟨v5, _, rfl, rfl, ho7⟩, ⟨rfl, rfl, trivial⟩, ⟨rfl, rfl⟩, _, (s_take (s_take (s_take s_nil)))⟩
  · rintro sh G ⟨v6, g6, rfl, rfl, ho8⟩
    refine c_seq ?_
    refine c_region ?_
    refine o_T (y_move rfl) rfl ?_
    refine o_L (y_assign rfl) rfl rfl ?_
    refine o_nil0 rfl ?_
    refine c_ret ?_
    obtain rfl := p1 hm
    refine fun aX wX heX hsX => ret1 Tryz.results234 heX rfl (s_get (ks k0) (s_take (s_take s_nil))) ?_
    exact ⟨v6, _, rfl, rfl, ho8⟩
end Go.Proofs.Qxb6500350aGreat
