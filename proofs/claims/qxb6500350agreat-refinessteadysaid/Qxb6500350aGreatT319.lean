/- MADE BY PROGRAM (tools350/mir.py): mirror and walk. -/
import Derived.Test.Qxb6500350aGreatF2
import Derived.Test.Qxb6500350aGreatT244
set_option linter.unusedVariables false
set_option linter.unusedSimpArgs false
set_option maxRecDepth 20000
set_option maxHeartbeats 4000000
namespace Go.Proofs.Qxb6500350aGreat
open Go.Eng

def op_319_2 : Array Go.Oper := #[{ dst := some 23, op := Go.Op.move (Go.Operand.tmp 0), type := 28, pos := "table.go:28", after := #[], guard := none }, { dst := some 24, op := Go.Op.move (Go.Operand.tmp 4), type := 3, pos := "table.go:28", after := #[], guard := none }, { dst := some 25, op := Go.Op.move (Go.Operand.tmp 0), type := 28, pos := "table.go:28", after := #[], guard := none }, { dst := some 26, op := Go.Op.move (Go.Operand.tmp 1), type := 3, pos := "table.go:28", after := #[], guard := none }, { dst := some 27, op := Go.Op.nilCheck (Go.Operand.tmp 25), type := 0, pos := "table.go:28", after := #[{ on := 2, ground := Go.Ground.data }], guard := none }, { dst := some 28, op := Go.Op.fieldAddr 126 (Go.Operand.tmp 27) 1, type := 0, pos := "table.go:28", after := #[{ on := 4, ground := Go.Ground.data }], guard := none }, { dst := some 29, op := Go.Op.indexAddr 121 (Go.Operand.tmp 28) (Go.Operand.tmp 26), type := 0, pos := "table.go:28", after := #[{ on := 5, ground := Go.Ground.data }, { on := 3, ground := Go.Ground.data }], guard := none }, { dst := some 30, op := Go.Op.fieldAddr 120 (Go.Operand.tmp 29) 5, type := 0, pos := "table.go:28", after := #[{ on := 6, ground := Go.Ground.data }], guard := none }, { dst := some 31, op := Go.Op.load 3 (Go.Operand.tmp 30), type := 3, pos := "table.go:28", after := #[{ on := 7, ground := Go.Ground.data }], guard := none }, { dst := some 32, op := Go.Op.nilCheck (Go.Operand.tmp 23), type := 0, pos := "table.go:28", after := #[{ on := 0, ground := Go.Ground.data }], guard := none }, { dst := some 33, op := Go.Op.fieldAddr 126 (Go.Operand.tmp 32) 2, type := 0, pos := "table.go:28", after := #[{ on := 9, ground := Go.Ground.data }], guard := none }, { dst := some 34, op := Go.Op.indexAddr 122 (Go.Operand.tmp 33) (Go.Operand.tmp 24), type := 0, pos := "table.go:28", after := #[{ on := 10, ground := Go.Ground.data }, { on := 1, ground := Go.Ground.data }, { on := 0, ground := Go.Ground.phase }, { on := 1, ground := Go.Ground.phase }, { on := 2, ground := Go.Ground.phase }, { on := 3, ground := Go.Ground.phase }, { on := 4, ground := Go.Ground.phase }, { on := 5, ground := Go.Ground.phase }, { on := 6, ground := Go.Ground.phase }, { on := 7, ground := Go.Ground.phase }, { on := 8, ground := Go.Ground.phase }], guard := none }, { dst := none, op := Go.Op.store 3 (Go.Operand.tmp 34) (Go.Operand.tmp 31), type := 0, pos := "table.go:28", after := #[{ on := 11, ground := Go.Ground.data }, { on := 8, ground := Go.Ground.data }, { on := 0, ground := Go.Ground.phase }, { on := 1, ground := Go.Ground.phase }, { on := 2, ground := Go.Ground.phase }, { on := 3, ground := Go.Ground.phase }, { on := 4, ground := Go.Ground.phase }, { on := 5, ground := Go.Ground.phase }, { on := 6, ground := Go.Ground.phase }, { on := 7, ground := Go.Ground.phase }, { on := 8, ground := Go.Ground.phase }], guard := none }]
def op_319_9 : Array Go.Oper := #[{ dst := some 64, op := Go.Op.move (Go.Operand.tmp 0), type := 28, pos := "table.go:35", after := #[], guard := none }, { dst := some 65, op := Go.Op.move (Go.Operand.tmp 5), type := 3, pos := "table.go:35", after := #[], guard := none }, { dst := some 66, op := Go.Op.move (Go.Operand.tmp 0), type := 28, pos := "table.go:35", after := #[], guard := none }, { dst := some 67, op := Go.Op.move (Go.Operand.tmp 1), type := 3, pos := "table.go:35", after := #[], guard := none }, { dst := some 68, op := Go.Op.nilCheck (Go.Operand.tmp 66), type := 0, pos := "table.go:35", after := #[{ on := 2, ground := Go.Ground.data }], guard := none }, { dst := some 69, op := Go.Op.fieldAddr 126 (Go.Operand.tmp 68) 1, type := 0, pos := "table.go:35", after := #[{ on := 4, ground := Go.Ground.data }], guard := none }, { dst := some 70, op := Go.Op.indexAddr 121 (Go.Operand.tmp 69) (Go.Operand.tmp 67), type := 0, pos := "table.go:35", after := #[{ on := 5, ground := Go.Ground.data }, { on := 3, ground := Go.Ground.data }], guard := none }, { dst := some 71, op := Go.Op.fieldAddr 120 (Go.Operand.tmp 70) 5, type := 0, pos := "table.go:35", after := #[{ on := 6, ground := Go.Ground.data }], guard := none }, { dst := some 72, op := Go.Op.load 3 (Go.Operand.tmp 71), type := 3, pos := "table.go:35", after := #[{ on := 7, ground := Go.Ground.data }], guard := none }, { dst := some 73, op := Go.Op.nilCheck (Go.Operand.tmp 64), type := 0, pos := "table.go:35", after := #[{ on := 0, ground := Go.Ground.data }], guard := none }, { dst := some 74, op := Go.Op.fieldAddr 126 (Go.Operand.tmp 73) 1, type := 0, pos := "table.go:35", after := #[{ on := 9, ground := Go.Ground.data }], guard := none }, { dst := some 75, op := Go.Op.indexAddr 121 (Go.Operand.tmp 74) (Go.Operand.tmp 65), type := 0, pos := "table.go:35", after := #[{ on := 10, ground := Go.Ground.data }, { on := 1, ground := Go.Ground.data }, { on := 0, ground := Go.Ground.phase }, { on := 1, ground := Go.Ground.phase }, { on := 2, ground := Go.Ground.phase }, { on := 3, ground := Go.Ground.phase }, { on := 4, ground := Go.Ground.phase }, { on := 5, ground := Go.Ground.phase }, { on := 6, ground := Go.Ground.phase }, { on := 7, ground := Go.Ground.phase }, { on := 8, ground := Go.Ground.phase }], guard := none }, { dst := some 76, op := Go.Op.fieldAddr 120 (Go.Operand.tmp 75) 5, type := 0, pos := "table.go:35", after := #[{ on := 11, ground := Go.Ground.data }, { on := 0, ground := Go.Ground.phase }, { on := 1, ground := Go.Ground.phase }, { on := 2, ground := Go.Ground.phase }, { on := 3, ground := Go.Ground.phase }, { on := 4, ground := Go.Ground.phase }, { on := 5, ground := Go.Ground.phase }, { on := 6, ground := Go.Ground.phase }, { on := 7, ground := Go.Ground.phase }, { on := 8, ground := Go.Ground.phase }], guard := none }, { dst := none, op := Go.Op.store 3 (Go.Operand.tmp 76) (Go.Operand.tmp 72), type := 0, pos := "table.go:35", after := #[{ on := 12, ground := Go.Ground.data }, { on := 8, ground := Go.Ground.data }, { on := 0, ground := Go.Ground.phase }, { on := 1, ground := Go.Ground.phase }, { on := 2, ground := Go.Ground.phase }, { on := 3, ground := Go.Ground.phase }, { on := 4, ground := Go.Ground.phase }, { on := 5, ground := Go.Ground.phase }, { on := 6, ground := Go.Ground.phase }, { on := 7, ground := Go.Ground.phase }, { on := 8, ground := Go.Ground.phase }], guard := none }]
theorem sb_319_2_0 : softB op_319_2 #[true, true, true, true, true, true, true, true, true, true, true, true, false] (Array.replicate 13 false) 0 = true := by kernel_rfl
theorem sb_319_2_1 : softB op_319_2 #[true, true, true, true, true, true, true, true, true, true, true, true, false] ((Array.replicate 13 false).setIfInBounds 0 true) 1 = true := by kernel_rfl
theorem sb_319_2_2 : softB op_319_2 #[true, true, true, true, true, true, true, true, true, true, true, true, false] (((Array.replicate 13 false).setIfInBounds 0 true).setIfInBounds 1 true) 2 = true := by kernel_rfl
theorem sb_319_2_3 : softB op_319_2 #[true, true, true, true, true, true, true, true, true, true, true, true, false] ((((Array.replicate 13 false).setIfInBounds 0 true).setIfInBounds 1 true).setIfInBounds 2 true) 3 = true := by kernel_rfl
theorem sb_319_2_4 : softB op_319_2 #[true, true, true, true, true, true, true, true, true, true, true, true, false] (((((Array.replicate 13 false).setIfInBounds 0 true).setIfInBounds 1 true).setIfInBounds 2 true).setIfInBounds 3 true) 4 = true := by kernel_rfl
theorem sb_319_2_5 : softB op_319_2 #[true, true, true, true, true, true, true, true, true, true, true, true, false] ((((((Array.replicate 13 false).setIfInBounds 0 true).setIfInBounds 1 true).setIfInBounds 2 true).setIfInBounds 3 true).setIfInBounds 4 true) 5 = true := by kernel_rfl
theorem sb_319_2_6 : softB op_319_2 #[true, true, true, true, true, true, true, true, true, true, true, true, false] (((((((Array.replicate 13 false).setIfInBounds 0 true).setIfInBounds 1 true).setIfInBounds 2 true).setIfInBounds 3 true).setIfInBounds 4 true).setIfInBounds 5 true) 6 = true := by kernel_rfl
theorem sb_319_2_7 : softB op_319_2 #[true, true, true, true, true, true, true, true, true, true, true, true, false] ((((((((Array.replicate 13 false).setIfInBounds 0 true).setIfInBounds 1 true).setIfInBounds 2 true).setIfInBounds 3 true).setIfInBounds 4 true).setIfInBounds 5 true).setIfInBounds 6 true) 7 = true := by kernel_rfl
theorem sb_319_2_8 : softB op_319_2 #[true, true, true, true, true, true, true, true, true, true, true, true, false] (((((((((Array.replicate 13 false).setIfInBounds 0 true).setIfInBounds 1 true).setIfInBounds 2 true).setIfInBounds 3 true).setIfInBounds 4 true).setIfInBounds 5 true).setIfInBounds 6 true).setIfInBounds 7 true) 8 = true := by kernel_rfl
theorem sb_319_2_9 : softB op_319_2 #[true, true, true, true, true, true, true, true, true, true, true, true, false] ((((((((((Array.replicate 13 false).setIfInBounds 0 true).setIfInBounds 1 true).setIfInBounds 2 true).setIfInBounds 3 true).setIfInBounds 4 true).setIfInBounds 5 true).setIfInBounds 6 true).setIfInBounds 7 true).setIfInBounds 8 true) 9 = true := by kernel_rfl
theorem sb_319_2_10 : softB op_319_2 #[true, true, true, true, true, true, true, true, true, true, true, true, false] (((((((((((Array.replicate 13 false).setIfInBounds 0 true).setIfInBounds 1 true).setIfInBounds 2 true).setIfInBounds 3 true).setIfInBounds 4 true).setIfInBounds 5 true).setIfInBounds 6 true).setIfInBounds 7 true).setIfInBounds 8 true).setIfInBounds 9 true) 10 = true := by kernel_rfl
theorem sb_319_2_11 : softB op_319_2 #[true, true, true, true, true, true, true, true, true, true, true, true, false] ((((((((((((Array.replicate 13 false).setIfInBounds 0 true).setIfInBounds 1 true).setIfInBounds 2 true).setIfInBounds 3 true).setIfInBounds 4 true).setIfInBounds 5 true).setIfInBounds 6 true).setIfInBounds 7 true).setIfInBounds 8 true).setIfInBounds 9 true).setIfInBounds 10 true) 11 = true := by kernel_rfl
theorem sb_319_2_12 : hardB op_319_2 (((((((((((((Array.replicate 13 false).setIfInBounds 0 true).setIfInBounds 1 true).setIfInBounds 2 true).setIfInBounds 3 true).setIfInBounds 4 true).setIfInBounds 5 true).setIfInBounds 6 true).setIfInBounds 7 true).setIfInBounds 8 true).setIfInBounds 9 true).setIfInBounds 10 true).setIfInBounds 11 true) [12] = true := by kernel_rfl
theorem sb_319_2_13 : hardB op_319_2 ((((((((((((((Array.replicate 13 false).setIfInBounds 0 true).setIfInBounds 1 true).setIfInBounds 2 true).setIfInBounds 3 true).setIfInBounds 4 true).setIfInBounds 5 true).setIfInBounds 6 true).setIfInBounds 7 true).setIfInBounds 8 true).setIfInBounds 9 true).setIfInBounds 10 true).setIfInBounds 11 true).setIfInBounds 12 true) [] = true := by kernel_rfl
theorem sb_319_9_0 : softB op_319_9 #[true, true, true, true, true, true, true, true, true, true, true, true, true, false] (Array.replicate 14 false) 0 = true := by kernel_rfl
theorem sb_319_9_1 : softB op_319_9 #[true, true, true, true, true, true, true, true, true, true, true, true, true, false] ((Array.replicate 14 false).setIfInBounds 0 true) 1 = true := by kernel_rfl
theorem sb_319_9_2 : softB op_319_9 #[true, true, true, true, true, true, true, true, true, true, true, true, true, false] (((Array.replicate 14 false).setIfInBounds 0 true).setIfInBounds 1 true) 2 = true := by kernel_rfl
theorem sb_319_9_3 : softB op_319_9 #[true, true, true, true, true, true, true, true, true, true, true, true, true, false] ((((Array.replicate 14 false).setIfInBounds 0 true).setIfInBounds 1 true).setIfInBounds 2 true) 3 = true := by kernel_rfl
theorem sb_319_9_4 : softB op_319_9 #[true, true, true, true, true, true, true, true, true, true, true, true, true, false] (((((Array.replicate 14 false).setIfInBounds 0 true).setIfInBounds 1 true).setIfInBounds 2 true).setIfInBounds 3 true) 4 = true := by kernel_rfl
theorem sb_319_9_5 : softB op_319_9 #[true, true, true, true, true, true, true, true, true, true, true, true, true, false] ((((((Array.replicate 14 false).setIfInBounds 0 true).setIfInBounds 1 true).setIfInBounds 2 true).setIfInBounds 3 true).setIfInBounds 4 true) 5 = true := by kernel_rfl
theorem sb_319_9_6 : softB op_319_9 #[true, true, true, true, true, true, true, true, true, true, true, true, true, false] (((((((Array.replicate 14 false).setIfInBounds 0 true).setIfInBounds 1 true).setIfInBounds 2 true).setIfInBounds 3 true).setIfInBounds 4 true).setIfInBounds 5 true) 6 = true := by kernel_rfl
theorem sb_319_9_7 : softB op_319_9 #[true, true, true, true, true, true, true, true, true, true, true, true, true, false] ((((((((Array.replicate 14 false).setIfInBounds 0 true).setIfInBounds 1 true).setIfInBounds 2 true).setIfInBounds 3 true).setIfInBounds 4 true).setIfInBounds 5 true).setIfInBounds 6 true) 7 = true := by kernel_rfl
theorem sb_319_9_8 : softB op_319_9 #[true, true, true, true, true, true, true, true, true, true, true, true, true, false] (((((((((Array.replicate 14 false).setIfInBounds 0 true).setIfInBounds 1 true).setIfInBounds 2 true).setIfInBounds 3 true).setIfInBounds 4 true).setIfInBounds 5 true).setIfInBounds 6 true).setIfInBounds 7 true) 8 = true := by kernel_rfl
theorem sb_319_9_9 : softB op_319_9 #[true, true, true, true, true, true, true, true, true, true, true, true, true, false] ((((((((((Array.replicate 14 false).setIfInBounds 0 true).setIfInBounds 1 true).setIfInBounds 2 true).setIfInBounds 3 true).setIfInBounds 4 true).setIfInBounds 5 true).setIfInBounds 6 true).setIfInBounds 7 true).setIfInBounds 8 true) 9 = true := by kernel_rfl
theorem sb_319_9_10 : softB op_319_9 #[true, true, true, true, true, true, true, true, true, true, true, true, true, false] (((((((((((Array.replicate 14 false).setIfInBounds 0 true).setIfInBounds 1 true).setIfInBounds 2 true).setIfInBounds 3 true).setIfInBounds 4 true).setIfInBounds 5 true).setIfInBounds 6 true).setIfInBounds 7 true).setIfInBounds 8 true).setIfInBounds 9 true) 10 = true := by kernel_rfl
theorem sb_319_9_11 : softB op_319_9 #[true, true, true, true, true, true, true, true, true, true, true, true, true, false] ((((((((((((Array.replicate 14 false).setIfInBounds 0 true).setIfInBounds 1 true).setIfInBounds 2 true).setIfInBounds 3 true).setIfInBounds 4 true).setIfInBounds 5 true).setIfInBounds 6 true).setIfInBounds 7 true).setIfInBounds 8 true).setIfInBounds 9 true).setIfInBounds 10 true) 11 = true := by kernel_rfl
theorem sb_319_9_12 : softB op_319_9 #[true, true, true, true, true, true, true, true, true, true, true, true, true, false] (((((((((((((Array.replicate 14 false).setIfInBounds 0 true).setIfInBounds 1 true).setIfInBounds 2 true).setIfInBounds 3 true).setIfInBounds 4 true).setIfInBounds 5 true).setIfInBounds 6 true).setIfInBounds 7 true).setIfInBounds 8 true).setIfInBounds 9 true).setIfInBounds 10 true).setIfInBounds 11 true) 12 = true := by kernel_rfl
theorem sb_319_9_13 : hardB op_319_9 ((((((((((((((Array.replicate 14 false).setIfInBounds 0 true).setIfInBounds 1 true).setIfInBounds 2 true).setIfInBounds 3 true).setIfInBounds 4 true).setIfInBounds 5 true).setIfInBounds 6 true).setIfInBounds 7 true).setIfInBounds 8 true).setIfInBounds 9 true).setIfInBounds 10 true).setIfInBounds 11 true).setIfInBounds 12 true) [13] = true := by kernel_rfl
theorem sb_319_9_14 : hardB op_319_9 (((((((((((((((Array.replicate 14 false).setIfInBounds 0 true).setIfInBounds 1 true).setIfInBounds 2 true).setIfInBounds 3 true).setIfInBounds 4 true).setIfInBounds 5 true).setIfInBounds 6 true).setIfInBounds 7 true).setIfInBounds 8 true).setIfInBounds 9 true).setIfInBounds 10 true).setIfInBounds 11 true).setIfInBounds 12 true).setIfInBounds 13 true) [] = true := by kernel_rfl
/- (*objects.Store).unhang -/
def m319_w1 (n : Nat) (s : Store) (id : Int) (mm : Nat) : Int → Int → Option (Flow (Store) (Int × Int)) := it2 (fun lp1 c2 c3 =>
cond ((decide (c3 < 48)) && (decide (¬ (c2 = 0)))) (
Option.bind (ckA c2 49) fun _ =>
cond (decide ((s.tab c2).nxt = id)) (
Option.bind (ckA id 49) fun _ =>
Option.bind (ckA c2 49) fun _ =>
nm ({ s with tab := (upI s.tab c2 { (s.tab c2) with nxt := (s.tab id).nxt }) } : Store) fun z3 =>
Option.bind (ckA id 49) fun _ =>
nm ({ z3 with tab := (upI z3.tab id { (z3.tab id) with nxt := 0 }) } : Store) fun z4 =>
Option.bind (some z4) fun q2 => some (.ret q2)) (
Option.bind (ckA c2 49) fun _ =>
lp1 ((s.tab c2).nxt) (wi (c3 + 1)))) (
some (.nx (c2, c3)))) mm
def m319 (n : Nat) (s : Store) (id : Int) : Option (Store) :=
Option.bind (ckA id 49) fun _ =>
ob1 (m244 n ((s.tab id).hash)) fun c1 =>
Option.bind (ckA c1 8) fun _ =>
cond (decide ((s.heads c1) = id)) (
Option.bind (ckA id 49) fun _ =>
Option.bind (ckA c1 8) fun _ =>
nm ({ s with heads := (upI s.heads c1 (s.tab id).nxt) } : Store) fun z1 =>
Option.bind (ckA id 49) fun _ =>
nm ({ z1 with tab := (upI z1.tab id { (z1.tab id) with nxt := 0 }) } : Store) fun z2 =>
some z2) (
Option.bind (ckA c1 8) fun _ =>
flow (m319_w1 n s id n (s.heads c1) 0) some (un2 fun c4 c5 =>
some s))
theorem t319 {n : Nat} {C : List Chunk} {rz1 : Store} {b1 : Nat} {s : Store} {q1 : Option Addr} {id : Int}   (hm : m319 n s id = some rz1) : Trip Tryz.prog 319 #[.pointer (some ⟨b1, 0, none⟩), .int .i64 id] ([[(b1, .cells (Store.enc ((.pointer q1)) s).toArray 126 (0, 0))]] ++ [C]) (fun u S' => .tuple #[] = u ∧ S' = [[(b1, .cells (Store.enc ((.pointer q1)) rz1).toArray 126 (0, 0))]] ++ [C]) := by
  refine fn_entry (args := [.pointer (some ⟨b1, 0, none⟩), .int .i64 id]) Tryz.func319 rfl Tryz.ntmps319 rfl (fun w0 => ?_)
  refine c_seq ?_
  refine c_region ?_
  refine o_T (y_move rfl) rfl ?_
  refine o_T (y_move rfl) rfl ?_
  refine o_T (y_nilck rfl) rfl ?_
  refine o_T (y_fa fl_126_1 rfl) rfl ?_
  obtain ⟨_, hx1, hm⟩ := bd hm
  have hx1 := ckA_some hx1
  refine o_T (y_ia ar_121 rfl rfl hx1.1 hx1.2) rfl ?_
  refine o_T (y_fa fl_120_4 rfl) rfl ?_
  refine o_ld one_118 rfl m0 (At.got (((At.refl.comp Store.a_tab).comp (encN_a Entr.len _ _ hx1.1 _ hx1.2)).comp Entr.a_hash)) rfl ?_
  obtain ⟨c1, hx2, hm⟩ := bd1 hm
  refine o_callC en_244 rfl s_nil (t244 hx2) rfl (fun u1 S1 hR1 => ?_)
  obtain ⟨rfl, rfl⟩ := hR1
  refine o_rest ?_
  refine o_L (y_assign rfl) rfl rfl ?_
  refine o_nil0 rfl ?_
  refine c_seq ?_
  refine c_seq ?_
  refine c_region ?_
  refine o_T (y_move rfl) rfl ?_
  refine o_T (y_move rfl) rfl ?_
  refine o_T (y_nilck rfl) rfl ?_
  refine o_T (y_fa fl_126_2 rfl) rfl ?_
  obtain ⟨_, hx3, hm⟩ := bd hm
  have hx3 := ckA_some hx3
  refine o_T (y_ia ar_122 rfl rfl hx3.1 hx3.2) rfl ?_
  refine o_ld one_3 rfl m0 (At.got ((At.refl.comp Store.a_heads).comp (encN_a encI_len _ _ hx3.1 _ hx3.2))) rfl ?_
  refine o_T (y_move rfl) rfl ?_
  refine o_T (y_eql rfl rfl) rfl ?_
  refine o_nil1 22 rfl rfl ?_
  refine c_cond rfl (fun h1 => ?_) (fun h1 => ?_)
  · have hm := cd_t h1 hm
    refine c_seq ?_
    refine c_draw #[true, true, true, true, true, true, true, true, true, true, true, true, false] rfl (n := 13) rfl ?_
    refine d_T 0 rfl sb_319_2_0 rfl (y_move rfl) rfl ?_
    refine d_T 1 rfl sb_319_2_1 rfl (y_move rfl) rfl ?_
    refine d_T 2 rfl sb_319_2_2 rfl (y_move rfl) rfl ?_
    refine d_T 3 rfl sb_319_2_3 rfl (y_move rfl) rfl ?_
    refine d_T 4 rfl sb_319_2_4 rfl (y_nilck rfl) rfl ?_
    refine d_T 5 rfl sb_319_2_5 rfl (y_fa fl_126_1 rfl) rfl ?_
    obtain ⟨_, hx4, hm⟩ := bd hm
    have hx4 := ckA_some hx4
    refine d_T 6 rfl sb_319_2_6 rfl (y_ia ar_121 rfl rfl hx4.1 hx4.2) rfl ?_
    refine d_T 7 rfl sb_319_2_7 rfl (y_fa fl_120_5 rfl) rfl ?_
    refine d_ld 8 rfl sb_319_2_8 one_3 rfl (fun x hx => hx) m0 (At.got (((At.refl.comp Store.a_tab).comp (encN_a Entr.len _ _ hx4.1 _ hx4.2)).comp Entr.a_nxt)) rfl ?_
    refine d_T 9 rfl sb_319_2_9 rfl (y_nilck rfl) rfl ?_
    refine d_T 10 rfl sb_319_2_10 rfl (y_fa fl_126_2 rfl) rfl ?_
    obtain ⟨_, hx5, hm⟩ := bd hm
    have hx5 := ckA_some hx5
    refine d_T 11 rfl sb_319_2_11 rfl (y_ia ar_122 rfl rfl hx5.1 hx5.2) rfl ?_
    refine d_hard 12 rfl sb_319_2_12 ?_
    obtain ⟨z1, hn1, hm⟩ := nm_s hm
    refine o_stN one_3 rfl rfl rfl ((Upd.z Store.u_heads).comp (encN_u encI_len _ _ _ hx5.1 _ hx5.2)) r0 (show (Store.enc ((.pointer q1)) z1) = _ from by subst hn1; rfl) ?_
    refine o_stop (fun h => nomatch h) ?_
    refine d_nil0 sb_319_2_13 rfl ?_
    refine c_seq ?_
    refine c_region ?_
    refine o_T (y_move rfl) rfl ?_
    refine o_T (y_move rfl) rfl ?_
    refine o_T (y_nilck rfl) rfl ?_
    refine o_T (y_fa fl_126_1 rfl) rfl ?_
    obtain ⟨_, hx6, hm⟩ := bd hm
    have hx6 := ckA_some hx6
    refine o_T (y_ia ar_121 rfl rfl hx6.1 hx6.2) rfl ?_
    refine o_T (y_fa fl_120_5 rfl) rfl ?_
    obtain ⟨z2, hn2, hm⟩ := nm_s hm
    refine o_stN one_3 rfl rfl rfl (((Upd.z Store.u_tab).comp (encN_u Entr.len _ _ _ hx6.1 _ hx6.2)).comp Entr.u_nxt) r0 (show (Store.enc ((.pointer q1)) z2) = _ from by subst hn2; rfl) ?_
    refine o_nil0 rfl ?_
    refine c_ret ?_
    obtain rfl := p1 hm
    refine fun aX wX heX hsX => ret0 Tryz.results319 (s_take (s_take s_nil)) ?_
    exact ⟨rfl, rfl⟩
  · have hm := cd_f h1 hm
    refine c_skip ?_
    refine c_seq ?_
    refine c_region ?_
    refine o_T (y_move rfl) rfl ?_
    refine o_T (y_move rfl) rfl ?_
    refine o_T (y_nilck rfl) rfl ?_
    refine o_T (y_fa fl_126_2 rfl) rfl ?_
    obtain ⟨_, hx7, hm⟩ := bd hm
    have hx7 := ckA_some hx7
    refine o_T (y_ia ar_122 rfl rfl hx7.1 hx7.2) rfl ?_
    refine o_ld one_3 rfl m0 (At.got ((At.refl.comp Store.a_heads).comp (encN_a encI_len _ _ hx7.1 _ hx7.2))) rfl ?_
    refine o_L (y_assign rfl) rfl rfl ?_
    refine o_nil0 rfl ?_
    refine c_seq ?_
    refine c_region ?_
    refine o_L (y_assign rfl) rfl rfl ?_
    refine o_nil0 rfl ?_
    obtain ⟨f1, F1, hF1, hj1, hF2⟩ := fl2 hm
    refine c_block ?_
    refine c_loopP (n := 0) (fun mm sh G => ∃ (c2 : Int), ∃ (c3 : Int), sh = [(5, .int .i64 c2), (6, .int .i64 c3)] ∧ G = [] ∧ m319_w1 n s id mm c2 c3 = some f1) n (s_take (s_take s_nil)) .z ⟨_, _, ⟨_, _, rfl, rfl, hj1⟩, ⟨rfl, rfl, trivial⟩, _, (s_take (s_take s_nil))⟩ ?_
    rintro mm sh G ⟨c2, c3, rfl, rfl, hm⟩
    obtain ⟨mm1, rfl, hm⟩ := it2_s hm
    refine c_seq ?_
    refine c_seq ?_
    refine c_joinP (n := 0) (fun sh G => sh = [(52, .bool ((decide (c3 < 48)) && (decide (¬ (c2 = 0)))))] ∧ G = []) Sel.all' .z (fun _ _ h => h) ?_ ?_
    · skip
      refine c_region ?_
      refine o_T (y_move rfl) rfl ?_
      refine o_T (y_lss rfl rfl) rfl ?_
      refine o_T (y_move rfl) rfl ?_
      refine o_split 49 rfl (fun h2 => ?_) (fun h2 => ?_)
      · skip
        refine o_take rfl rfl rfl ?_
        refine o_T (y_move rfl) rfl ?_
        refine o_take rfl rfl rfl ?_
        refine o_T (y_neq rfl rfl) rfl ?_
        refine o_T (y_pickT rfl rfl) rfl ?_
        refine o_nil1 52 rfl rfl ?_
        refine ⟨_, _, ⟨rfl, rfl⟩, ⟨by first | rfl | exact gtb rfl (by simp only [h2, Bool.true_and, Bool.false_and, Bool.true_or, Bool.false_or, Bool.and_true, Bool.and_false, Bool.or_true, Bool.or_false, Bool.not_true, Bool.not_false]), trivial⟩, ⟨rfl, rfl⟩, _, (s_take (s_take s_nil))⟩
      · skip
        refine o_pass rfl rfl rfl rfl rfl ?_
        refine o_pass rfl rfl rfl rfl rfl ?_
        refine o_T (y_pickF rfl rfl) rfl ?_
        refine o_nil1 52 rfl rfl ?_
        refine ⟨_, _, ⟨rfl, rfl⟩, ⟨by first | rfl | exact gtb rfl (by simp only [h2, Bool.true_and, Bool.false_and, Bool.true_or, Bool.false_or, Bool.and_true, Bool.and_false, Bool.or_true, Bool.or_false, Bool.not_true, Bool.not_false]), trivial⟩, ⟨rfl, rfl⟩, _, (s_take (s_take s_nil))⟩
    · rintro sh G ⟨rfl, rfl⟩
      refine c_cond rfl (fun h3 => ?_) (fun h3 => ?_)
      · have hm := cd_t h3 hm
        refine c_skip ?_
        refine c_seq ?_
        refine c_block ?_
        refine c_seq ?_
        refine c_seq ?_
        refine c_region ?_
        refine o_T (y_move rfl) rfl ?_
        refine o_T (y_move rfl) rfl ?_
        refine o_T (y_nilck rfl) rfl ?_
        refine o_T (y_fa fl_126_1 rfl) rfl ?_
        obtain ⟨_, hx8, hm⟩ := bd hm
        have hx8 := ckA_some hx8
        refine o_T (y_ia ar_121 rfl rfl hx8.1 hx8.2) rfl ?_
        refine o_T (y_fa fl_120_5 rfl) rfl ?_
        refine o_ld one_3 rfl m0 (At.got (((At.refl.comp Store.a_tab).comp (encN_a Entr.len _ _ hx8.1 _ hx8.2)).comp Entr.a_nxt)) rfl ?_
        refine o_T (y_move rfl) rfl ?_
        refine o_T (y_eql rfl rfl) rfl ?_
        refine o_nil1 63 rfl rfl ?_
        refine c_cond rfl (fun h4 => ?_) (fun h4 => ?_)
        · have hm := cd_t h4 hm
          refine c_seq ?_
          refine c_draw #[true, true, true, true, true, true, true, true, true, true, true, true, true, false] rfl (n := 14) rfl ?_
          refine d_T 0 rfl sb_319_9_0 rfl (y_move rfl) rfl ?_
          refine d_T 1 rfl sb_319_9_1 rfl (y_move rfl) rfl ?_
          refine d_T 2 rfl sb_319_9_2 rfl (y_move rfl) rfl ?_
          refine d_T 3 rfl sb_319_9_3 rfl (y_move rfl) rfl ?_
          refine d_T 4 rfl sb_319_9_4 rfl (y_nilck rfl) rfl ?_
          refine d_T 5 rfl sb_319_9_5 rfl (y_fa fl_126_1 rfl) rfl ?_
          obtain ⟨_, hx9, hm⟩ := bd hm
          have hx9 := ckA_some hx9
          refine d_T 6 rfl sb_319_9_6 rfl (y_ia ar_121 rfl rfl hx9.1 hx9.2) rfl ?_
          refine d_T 7 rfl sb_319_9_7 rfl (y_fa fl_120_5 rfl) rfl ?_
          refine d_ld 8 rfl sb_319_9_8 one_3 rfl (fun x hx => hx) m0 (At.got (((At.refl.comp Store.a_tab).comp (encN_a Entr.len _ _ hx9.1 _ hx9.2)).comp Entr.a_nxt)) rfl ?_
          refine d_T 9 rfl sb_319_9_9 rfl (y_nilck rfl) rfl ?_
          refine d_T 10 rfl sb_319_9_10 rfl (y_fa fl_126_1 rfl) rfl ?_
          obtain ⟨_, hx10, hm⟩ := bd hm
          have hx10 := ckA_some hx10
          refine d_T 11 rfl sb_319_9_11 rfl (y_ia ar_121 rfl rfl hx10.1 hx10.2) rfl ?_
          refine d_T 12 rfl sb_319_9_12 rfl (y_fa fl_120_5 rfl) rfl ?_
          refine d_hard 13 rfl sb_319_9_13 ?_
          obtain ⟨z3, hn3, hm⟩ := nm_s hm
          refine o_stN one_3 rfl rfl rfl (((Upd.z Store.u_tab).comp (encN_u Entr.len _ _ _ hx10.1 _ hx10.2)).comp Entr.u_nxt) r0 (show (Store.enc ((.pointer q1)) z3) = _ from by subst hn3; rfl) ?_
          refine o_stop (fun h => nomatch h) ?_
          refine d_nil0 sb_319_9_14 rfl ?_
          refine c_seq ?_
          refine c_region ?_
          refine o_T (y_move rfl) rfl ?_
          refine o_T (y_move rfl) rfl ?_
          refine o_T (y_nilck rfl) rfl ?_
          refine o_T (y_fa fl_126_1 rfl) rfl ?_
          obtain ⟨_, hx11, hm⟩ := bd hm
          have hx11 := ckA_some hx11
          refine o_T (y_ia ar_121 rfl rfl hx11.1 hx11.2) rfl ?_
          refine o_T (y_fa fl_120_5 rfl) rfl ?_
          obtain ⟨z4, hn4, hm⟩ := nm_s hm
          refine o_stN one_3 rfl rfl rfl (((Upd.z Store.u_tab).comp (encN_u Entr.len _ _ _ hx11.1 _ hx11.2)).comp Entr.u_nxt) r0 (show (Store.enc ((.pointer q1)) z4) = _ from by subst hn4; rfl) ?_
          refine o_nil0 rfl ?_
          refine c_ret ?_
          obtain ⟨q2, hq1, hm⟩ := bd hm
          have hm := fl_ret hm hF2
          have hm := hq1.trans hm
          obtain rfl := p1 hm
          refine fun aX wX heX hsX => ret0 Tryz.results319 (s_take (s_take s_nil)) ?_
          exact ⟨rfl, rfl⟩
        · have hm := cd_f h4 hm
          refine c_skip ?_
          refine c_region ?_
          refine o_T (y_move rfl) rfl ?_
          refine o_T (y_move rfl) rfl ?_
          refine o_T (y_nilck rfl) rfl ?_
          refine o_T (y_fa fl_126_1 rfl) rfl ?_
          obtain ⟨_, hx12, hm⟩ := bd hm
          have hx12 := ckA_some hx12
          refine o_T (y_ia ar_121 rfl rfl hx12.1 hx12.2) rfl ?_
          refine o_T (y_fa fl_120_5 rfl) rfl ?_
          refine o_ld one_3 rfl m0 (At.got (((At.refl.comp Store.a_tab).comp (encN_a Entr.len _ _ hx12.1 _ hx12.2)).comp Entr.a_nxt)) rfl ?_
          refine o_L (y_assign rfl) rfl rfl ?_
          refine o_nil0 rfl ?_
          refine c_region ?_
          refine o_T (y_move rfl) rfl ?_
          refine o_T (y_add rfl rfl rfl) rfl ?_
          refine o_L (y_assign rfl) rfl rfl ?_
          refine o_nil0 rfl ?_
          exact ⟨mm1, Nat.lt_succ_self _, _, _, ⟨_, _, rfl, rfl, hm⟩, ⟨rfl, rfl, trivial⟩, ⟨rfl, rfl⟩, _, (s_take (s_take s_nil))⟩
      · have hm := cd_f h3 hm
        refine c_exit ?_
        have hm := fl_nx hm hF2
        subst hF1
        obtain rfl := p1 hm
        refine fun aX wX heX hsX => ret0 Tryz.results319 (s_take (s_take s_nil)) ?_
        exact ⟨rfl, rfl⟩
end Go.Proofs.Qxb6500350aGreat
