/- MADE BY PROGRAM (tools350/mir.py): mirror and walk. -/
import Derived.Test.Qxb6500350aGreatF2
import Derived.Test.Qxb6500350aGreatT297
import Derived.Test.Qxb6500350aGreatT298
import Derived.Test.Qxb6500350aGreatT299
import Derived.Test.Qxb6500350aGreatT258
import Derived.Test.Qxb6500350aGreatT300
import Derived.Test.Qxb6500350aGreatT301
import Derived.Test.Qxb6500350aGreatT302
import Derived.Test.Qxb6500350aGreatT242
import Derived.Test.Qxb6500350aGreatT166
set_option linter.unusedVariables false
set_option linter.unusedSimpArgs false
set_option maxRecDepth 20000
set_option maxHeartbeats 4000000
namespace Go.Proofs.Qxb6500350aGreat
open Go.Eng

def op_274_23 : Array Go.Oper := #[{ dst := some 72, op := Go.Op.move (Go.Operand.tmp 0), type := 28, pos := "objects.go:85", after := #[], guard := none }, { dst := some 73, op := Go.Op.nilCheck (Go.Operand.tmp 72), type := 0, pos := "objects.go:85", after := #[{ on := 0, ground := Go.Ground.data }], guard := none }, { dst := some 74, op := Go.Op.fieldAddr 126 (Go.Operand.tmp 73) 0, type := 0, pos := "objects.go:85", after := #[{ on := 1, ground := Go.Ground.data }], guard := none }, { dst := some 75, op := Go.Op.load 27 (Go.Operand.tmp 74), type := 27, pos := "objects.go:85", after := #[{ on := 2, ground := Go.Ground.data }], guard := none }, { dst := some 76, op := Go.Op.move (Go.Operand.tmp 14), type := 3, pos := "objects.go:85", after := #[], guard := none }, { dst := some 77, op := Go.Op.indexAddr 304 (Go.Operand.tmp 12) (Go.Operand.tmp 76), type := 0, pos := "objects.go:85", after := #[{ on := 4, ground := Go.Ground.data }], guard := none }, { dst := some 78, op := Go.Op.load 3 (Go.Operand.tmp 77), type := 3, pos := "objects.go:85", after := #[{ on := 5, ground := Go.Ground.data }], guard := none }, { dst := some 79, op := Go.Op.move (Go.Operand.tmp 16), type := 81, pos := "objects.go:85", after := #[], guard := none }, { dst := some 80, op := Go.Op.call { callee := Go.Callee.value (Go.Operand.func 302), args := #[Go.Operand.tmp 75, Go.Operand.tmp 78, Go.Operand.tmp 79], argTypes := #[27, 3, 81] }, type := 73, pos := "objects.go:85", after := #[{ on := 3, ground := Go.Ground.data }, { on := 6, ground := Go.Ground.data }, { on := 7, ground := Go.Ground.data }], guard := none }]
def op_274_25 : Array Go.Oper := #[{ dst := some 86, op := Go.Op.move (Go.Operand.tmp 0), type := 28, pos := "objects.go:88", after := #[], guard := none }, { dst := some 87, op := Go.Op.move (Go.Operand.tmp 10), type := 3, pos := "objects.go:88", after := #[], guard := none }, { dst := some 88, op := Go.Op.move (Go.Operand.tmp 1), type := 3, pos := "objects.go:88", after := #[], guard := none }, { dst := some 89, op := Go.Op.move (Go.Operand.tmp 2), type := 81, pos := "objects.go:88", after := #[], guard := none }, { dst := some 90, op := Go.Op.call { callee := Go.Callee.builtin Go.Builtin.len, args := #[Go.Operand.tmp 89], argTypes := #[81] }, type := 3, pos := "objects.go:88", after := #[{ on := 3, ground := Go.Ground.data }], guard := none }, { dst := some 91, op := Go.Op.indexAddr 304 (Go.Operand.tmp 12) (Go.Operand.const (Go.Value.int Go.IntKind.i64 0)), type := 0, pos := "objects.go:88", after := #[], guard := none }, { dst := some 92, op := Go.Op.load 3 (Go.Operand.tmp 91), type := 3, pos := "objects.go:88", after := #[{ on := 5, ground := Go.Ground.data }], guard := none }, { dst := some 93, op := Go.Op.move (Go.Operand.tmp 8), type := 118, pos := "objects.go:88", after := #[], guard := none }, { dst := some 94, op := Go.Op.build 120 #[(0, Go.Operand.const (Go.Value.int Go.IntKind.i64 1)), (1, Go.Operand.tmp 88), (2, Go.Operand.tmp 90), (3, Go.Operand.tmp 92), (4, Go.Operand.tmp 93)], type := 120, pos := "objects.go:88", after := #[{ on := 2, ground := Go.Ground.data }, { on := 4, ground := Go.Ground.data }, { on := 6, ground := Go.Ground.data }, { on := 7, ground := Go.Ground.data }], guard := none }, { dst := some 95, op := Go.Op.nilCheck (Go.Operand.tmp 86), type := 0, pos := "objects.go:88", after := #[{ on := 0, ground := Go.Ground.data }], guard := none }, { dst := some 96, op := Go.Op.fieldAddr 126 (Go.Operand.tmp 95) 1, type := 0, pos := "objects.go:88", after := #[{ on := 9, ground := Go.Ground.data }], guard := none }, { dst := some 97, op := Go.Op.indexAddr 121 (Go.Operand.tmp 96) (Go.Operand.tmp 87), type := 0, pos := "objects.go:88", after := #[{ on := 10, ground := Go.Ground.data }, { on := 1, ground := Go.Ground.data }, { on := 0, ground := Go.Ground.phase }, { on := 1, ground := Go.Ground.phase }, { on := 2, ground := Go.Ground.phase }, { on := 3, ground := Go.Ground.phase }, { on := 4, ground := Go.Ground.phase }, { on := 5, ground := Go.Ground.phase }, { on := 6, ground := Go.Ground.phase }, { on := 7, ground := Go.Ground.phase }, { on := 8, ground := Go.Ground.phase }], guard := none }, { dst := none, op := Go.Op.store 120 (Go.Operand.tmp 97) (Go.Operand.tmp 94), type := 0, pos := "objects.go:88", after := #[{ on := 11, ground := Go.Ground.data }, { on := 8, ground := Go.Ground.data }, { on := 0, ground := Go.Ground.phase }, { on := 1, ground := Go.Ground.phase }, { on := 2, ground := Go.Ground.phase }, { on := 3, ground := Go.Ground.phase }, { on := 4, ground := Go.Ground.phase }, { on := 5, ground := Go.Ground.phase }, { on := 6, ground := Go.Ground.phase }, { on := 7, ground := Go.Ground.phase }, { on := 8, ground := Go.Ground.phase }], guard := none }]
theorem sb_274_23_0 : softB op_274_23 #[true, true, true, true, true, true, true, true, false] (Array.replicate 9 false) 0 = true := by kernel_rfl
theorem sb_274_23_1 : softB op_274_23 #[true, true, true, true, true, true, true, true, false] ((Array.replicate 9 false).setIfInBounds 0 true) 1 = true := by kernel_rfl
theorem sb_274_23_2 : softB op_274_23 #[true, true, true, true, true, true, true, true, false] (((Array.replicate 9 false).setIfInBounds 0 true).setIfInBounds 1 true) 2 = true := by kernel_rfl
theorem sb_274_23_3 : softB op_274_23 #[true, true, true, true, true, true, true, true, false] ((((Array.replicate 9 false).setIfInBounds 0 true).setIfInBounds 1 true).setIfInBounds 2 true) 3 = true := by kernel_rfl
theorem sb_274_23_4 : softB op_274_23 #[true, true, true, true, true, true, true, true, false] (((((Array.replicate 9 false).setIfInBounds 0 true).setIfInBounds 1 true).setIfInBounds 2 true).setIfInBounds 3 true) 4 = true := by kernel_rfl
theorem sb_274_23_5 : softB op_274_23 #[true, true, true, true, true, true, true, true, false] ((((((Array.replicate 9 false).setIfInBounds 0 true).setIfInBounds 1 true).setIfInBounds 2 true).setIfInBounds 3 true).setIfInBounds 4 true) 5 = true := by kernel_rfl
theorem sb_274_23_6 : softB op_274_23 #[true, true, true, true, true, true, true, true, false] (((((((Array.replicate 9 false).setIfInBounds 0 true).setIfInBounds 1 true).setIfInBounds 2 true).setIfInBounds 3 true).setIfInBounds 4 true).setIfInBounds 5 true) 6 = true := by kernel_rfl
theorem sb_274_23_7 : softB op_274_23 #[true, true, true, true, true, true, true, true, false] ((((((((Array.replicate 9 false).setIfInBounds 0 true).setIfInBounds 1 true).setIfInBounds 2 true).setIfInBounds 3 true).setIfInBounds 4 true).setIfInBounds 5 true).setIfInBounds 6 true) 7 = true := by kernel_rfl
theorem sb_274_23_8 : hardB op_274_23 (((((((((Array.replicate 9 false).setIfInBounds 0 true).setIfInBounds 1 true).setIfInBounds 2 true).setIfInBounds 3 true).setIfInBounds 4 true).setIfInBounds 5 true).setIfInBounds 6 true).setIfInBounds 7 true) [8] = true := by kernel_rfl
theorem sb_274_23_9 : hardB op_274_23 ((((((((((Array.replicate 9 false).setIfInBounds 0 true).setIfInBounds 1 true).setIfInBounds 2 true).setIfInBounds 3 true).setIfInBounds 4 true).setIfInBounds 5 true).setIfInBounds 6 true).setIfInBounds 7 true).setIfInBounds 8 true) [] = true := by kernel_rfl
theorem sb_274_25_0 : softB op_274_25 #[true, true, true, true, true, true, true, true, true, true, true, true, false] (Array.replicate 13 false) 0 = true := by kernel_rfl
theorem sb_274_25_1 : softB op_274_25 #[true, true, true, true, true, true, true, true, true, true, true, true, false] ((Array.replicate 13 false).setIfInBounds 0 true) 1 = true := by kernel_rfl
theorem sb_274_25_2 : softB op_274_25 #[true, true, true, true, true, true, true, true, true, true, true, true, false] (((Array.replicate 13 false).setIfInBounds 0 true).setIfInBounds 1 true) 2 = true := by kernel_rfl
theorem sb_274_25_3 : softB op_274_25 #[true, true, true, true, true, true, true, true, true, true, true, true, false] ((((Array.replicate 13 false).setIfInBounds 0 true).setIfInBounds 1 true).setIfInBounds 2 true) 3 = true := by kernel_rfl
theorem sb_274_25_4 : softB op_274_25 #[true, true, true, true, true, true, true, true, true, true, true, true, false] (((((Array.replicate 13 false).setIfInBounds 0 true).setIfInBounds 1 true).setIfInBounds 2 true).setIfInBounds 3 true) 4 = true := by kernel_rfl
theorem sb_274_25_5 : softB op_274_25 #[true, true, true, true, true, true, true, true, true, true, true, true, false] ((((((Array.replicate 13 false).setIfInBounds 0 true).setIfInBounds 1 true).setIfInBounds 2 true).setIfInBounds 3 true).setIfInBounds 4 true) 5 = true := by kernel_rfl
theorem sb_274_25_6 : softB op_274_25 #[true, true, true, true, true, true, true, true, true, true, true, true, false] (((((((Array.replicate 13 false).setIfInBounds 0 true).setIfInBounds 1 true).setIfInBounds 2 true).setIfInBounds 3 true).setIfInBounds 4 true).setIfInBounds 5 true) 6 = true := by kernel_rfl
theorem sb_274_25_7 : softB op_274_25 #[true, true, true, true, true, true, true, true, true, true, true, true, false] ((((((((Array.replicate 13 false).setIfInBounds 0 true).setIfInBounds 1 true).setIfInBounds 2 true).setIfInBounds 3 true).setIfInBounds 4 true).setIfInBounds 5 true).setIfInBounds 6 true) 7 = true := by kernel_rfl
theorem sb_274_25_8 : softB op_274_25 #[true, true, true, true, true, true, true, true, true, true, true, true, false] (((((((((Array.replicate 13 false).setIfInBounds 0 true).setIfInBounds 1 true).setIfInBounds 2 true).setIfInBounds 3 true).setIfInBounds 4 true).setIfInBounds 5 true).setIfInBounds 6 true).setIfInBounds 7 true) 8 = true := by kernel_rfl
theorem sb_274_25_9 : softB op_274_25 #[true, true, true, true, true, true, true, true, true, true, true, true, false] ((((((((((Array.replicate 13 false).setIfInBounds 0 true).setIfInBounds 1 true).setIfInBounds 2 true).setIfInBounds 3 true).setIfInBounds 4 true).setIfInBounds 5 true).setIfInBounds 6 true).setIfInBounds 7 true).setIfInBounds 8 true) 9 = true := by kernel_rfl
theorem sb_274_25_10 : softB op_274_25 #[true, true, true, true, true, true, true, true, true, true, true, true, false] (((((((((((Array.replicate 13 false).setIfInBounds 0 true).setIfInBounds 1 true).setIfInBounds 2 true).setIfInBounds 3 true).setIfInBounds 4 true).setIfInBounds 5 true).setIfInBounds 6 true).setIfInBounds 7 true).setIfInBounds 8 true).setIfInBounds 9 true) 10 = true := by kernel_rfl
theorem sb_274_25_11 : softB op_274_25 #[true, true, true, true, true, true, true, true, true, true, true, true, false] ((((((((((((Array.replicate 13 false).setIfInBounds 0 true).setIfInBounds 1 true).setIfInBounds 2 true).setIfInBounds 3 true).setIfInBounds 4 true).setIfInBounds 5 true).setIfInBounds 6 true).setIfInBounds 7 true).setIfInBounds 8 true).setIfInBounds 9 true).setIfInBounds 10 true) 11 = true := by kernel_rfl
theorem sb_274_25_12 : hardB op_274_25 (((((((((((((Array.replicate 13 false).setIfInBounds 0 true).setIfInBounds 1 true).setIfInBounds 2 true).setIfInBounds 3 true).setIfInBounds 4 true).setIfInBounds 5 true).setIfInBounds 6 true).setIfInBounds 7 true).setIfInBounds 8 true).setIfInBounds 9 true).setIfInBounds 10 true).setIfInBounds 11 true) [12] = true := by kernel_rfl
theorem sb_274_25_13 : hardB op_274_25 ((((((((((((((Array.replicate 13 false).setIfInBounds 0 true).setIfInBounds 1 true).setIfInBounds 2 true).setIfInBounds 3 true).setIfInBounds 4 true).setIfInBounds 5 true).setIfInBounds 6 true).setIfInBounds 7 true).setIfInBounds 8 true).setIfInBounds 9 true).setIfInBounds 10 true).setIfInBounds 11 true).setIfInBounds 12 true) [] = true := by kernel_rfl
/- (*objects.Store).Put -/
def m274_w1 (n : Nat) (kind : Int) (data : (List UInt8)) (c4 : Int) (z1 : (Int → Int)) (mm : Nat) : Int → Store → Dev → Option (Int × Store × Dev) := it3 (fun lp1 c6 z2 z3 =>
cond (decide (c6 < c4)) (
ob1 (cond (decide ((wi (c6 + 1)) < c4)) (
Option.bind (ckA (wi (c6 + 1)) 3) fun _ =>
some (z1 (wi (c6 + 1)))) (
some 0)) fun c8 =>
ob1 (m301 n kind c8 data (wi (c6 * 60))) fun l1 =>
Option.bind (ckA c6 3) fun _ =>
ob2 (m302 n z3 (z1 c6) l1) fun c9 z6 =>
Option.bind (ckA c6 3) fun _ =>
ob1 (m242 n z2 (z1 c6) true) fun z7 =>
lp1 (wi (c6 + 1)) z7 z6) (
some (c6, z2, z3))) mm
def m274 (n : Nat) (s : Store) (d : Dev) (kind : Int) (data : (List UInt8)) : Option (Int × Int × Store × Dev) :=
cond ((decide (kind < 1)) || (decide ((4 : Int) < kind))) (
some (0, 3, s, d)) (
cond (decide ((180 : Int) < (data.length : Int))) (
some (0, 4, s, d)) (
ob1 (m297 n kind data) fun c1 =>
ob1 (m298 n s d kind data c1) fun c2 =>
cond (decide (¬ (c2 = 0))) (
some (c2, 0, s, d)) (
ob1 (m299 n s) fun c3 =>
cond (decide (c3 = 0)) (
some (0, 5, s, d)) (
ob1 (m258 n (data.length : Int)) fun c4 =>
ob2 (m300 n s c4) fun x1 c5 =>
nm (x1 : (Int → Int)) fun z1 =>
cond (decide (c5 < c4)) (
some (0, 5, s, d)) (
ob3 (m274_w1 n kind data c4 z1 n 0 s d) fun c7 z4 z5 =>
Option.bind (ckA c3 49) fun _ =>
nm ({ z4 with tab := (upI z4.tab c3 ({ Entr.zero with state := 1, kind := kind, size := (data.length : Int), first := (z1 0), hash := c1 })) } : Store) fun z8 =>
nm ({ z8 with nfree := (wi (z8.nfree - 1)) } : Store) fun z9 =>
ob1 (m166 n z9 c3) fun z10 =>
some (c3, 0, z10, z5))))))
theorem t274 {n : Nat} {C : List Chunk} {rc1 : Int} {rc2 : Int} {rz1 : Store} {rz2 : Dev} {b1 : Nat} {s : Store} {b2 : Nat} {d : Dev} {v1 : Value} {g1 : List Chunk} {v2 : Value} {g2 : List Chunk} {v3 : Value} {g3 : List Chunk} {v4 : Value} {g4 : List Chunk} {kind : Int} {v5 : Value} {data : (List UInt8)} (ho1 : Own rByte v1 d.blk g1) (ho2 : Own rByte v2 d.base g2) (ho3 : Own rInt v3 d.at_ g3) (ho4 : Own rByte v4 d.data g4) (hr1 : Rd rByte C v5 data)  (hm : m274 n s d kind data = some (rc1, rc2, rz1, rz2)) : Trip Tryz.prog 274 #[.pointer (some ⟨b1, 0, none⟩), .int .i64 kind, v5] ([[(b1, .cells (Store.enc (.pointer (some ⟨b2, 0, none⟩)) s).toArray 126 (0, 0))], [(b2, .cells (Dev.enc (v1) (v2) (v3) (v4) d).toArray 85 (0, 0))], g1, g2, g3, g4] ++ [C]) (fun u S' => ∃ (ev1 : Value), ∃ (eg1 : List Chunk), ∃ (ev2 : Value), ∃ (eg2 : List Chunk), ∃ (ev3 : Value), ∃ (eg3 : List Chunk), ∃ (ev4 : Value), ∃ (eg4 : List Chunk), .tuple #[.int .i64 rc1, .int .i64 rc2] = u ∧ S' = [[(b1, .cells (Store.enc (.pointer (some ⟨b2, 0, none⟩)) rz1).toArray 126 (0, 0))], [(b2, .cells (Dev.enc (ev1) (ev2) (ev3) (ev4) rz2).toArray 85 (0, 0))], eg1, eg2, eg3, eg4] ++ [C] ∧ Own rByte ev1 rz2.blk eg1 ∧ Own rByte ev2 rz2.base eg2 ∧ Own rInt ev3 rz2.at_ eg3 ∧ Own rByte ev4 rz2.data eg4) := by
  refine fn_entry (args := [.pointer (some ⟨b1, 0, none⟩), .int .i64 kind, v5]) Tryz.func274 rfl Tryz.ntmps274 rfl (fun w0 => ?_)
  refine c_seq ?_
  refine c_region ?_
  refine o_L (y_assign rfl) rfl rfl ?_
  refine o_L (y_assign rfl) rfl rfl ?_
  refine o_nil0 rfl ?_
  refine c_seq ?_
  refine c_seq ?_
  refine c_joinP (n := 0) (fun sh G => sh = [(22, .bool ((decide (kind < 1)) || (decide ((4 : Int) < kind))))] ∧ G = []) Sel.all' .z (fun _ _ h => h) ?_ ?_
  · skip
    refine c_region ?_
    refine o_T (y_move rfl) rfl ?_
    refine o_T (y_lss rfl rfl) rfl ?_
    refine o_T (y_move rfl) rfl ?_
    refine o_split 19 rfl (fun h1 => ?_) (fun h1 => ?_)
    · skip
      refine o_pass rfl rfl rfl rfl rfl ?_
      refine o_pass rfl rfl rfl rfl rfl ?_
      refine o_T (y_pickT rfl rfl) rfl ?_
      refine o_nil1 22 rfl rfl ?_
      refine ⟨_, _, ⟨rfl, rfl⟩, ⟨by first | rfl | exact gtb rfl (by simp only [h1, Bool.true_and, Bool.false_and, Bool.true_or, Bool.false_or, Bool.and_true, Bool.and_false, Bool.or_true, Bool.or_false, Bool.not_true, Bool.not_false]), trivial⟩, ⟨rfl, rfl⟩, _, (s_take (s_take (s_take (s_take (s_take (s_take (s_take s_nil)))))))⟩
    · skip
      refine o_take rfl rfl rfl ?_
      refine o_T (y_move rfl) rfl ?_
      refine o_take rfl rfl rfl ?_
      refine o_T (y_gtr rfl rfl) rfl ?_
      refine o_T (y_pickF rfl rfl) rfl ?_
      refine o_nil1 22 rfl rfl ?_
      refine ⟨_, _, ⟨rfl, rfl⟩, ⟨by first | rfl | exact gtb rfl (by simp only [h1, Bool.true_and, Bool.false_and, Bool.true_or, Bool.false_or, Bool.and_true, Bool.and_false, Bool.or_true, Bool.or_false, Bool.not_true, Bool.not_false]), trivial⟩, ⟨rfl, rfl⟩, _, (s_take (s_take (s_take (s_take (s_take (s_take (s_take s_nil)))))))⟩
  · rintro sh G ⟨rfl, rfl⟩
    refine c_cond rfl (fun h2 => ?_) (fun h2 => ?_)
    · have hm := cd_t h2 hm
      refine c_seq ?_
      refine c_region ?_
      refine o_L (y_assign rfl) rfl rfl ?_
      refine o_L (y_assign rfl) rfl rfl ?_
      refine o_nil0 rfl ?_
      refine c_ret ?_
      obtain ⟨rfl, rfl, rfl, rfl⟩ := pr4 hm
      refine fun aX wX heX hsX => ret2 Tryz.results274 heX rfl rfl (s_take (s_take (s_take (s_take (s_take (s_take (s_take s_nil))))))) ?_
      exact ⟨v1, _, v2, _, v3, _, v4, _, rfl, rfl, ho1, ho2, ho3, ho4⟩
    · have hm := cd_f h2 hm
      refine c_skip ?_
      refine c_seq ?_
      refine c_seq ?_
      refine c_region ?_
      refine o_T (y_move rfl) rfl ?_
      refine o_T (y_lenR hr1 Tryz.underlying81 rfl) rfl ?_
      refine o_T (y_gtr rfl rfl) rfl ?_
      refine o_nil1 25 rfl rfl ?_
      refine c_cond rfl (fun h3 => ?_) (fun h3 => ?_)
      · have hm := cd_t h3 hm
        refine c_seq ?_
        refine c_region ?_
        refine o_L (y_assign rfl) rfl rfl ?_
        refine o_L (y_assign rfl) rfl rfl ?_
        refine o_nil0 rfl ?_
        refine c_ret ?_
        obtain ⟨rfl, rfl, rfl, rfl⟩ := pr4 hm
        refine fun aX wX heX hsX => ret2 Tryz.results274 heX rfl rfl (s_take (s_take (s_take (s_take (s_take (s_take (s_take s_nil))))))) ?_
        exact ⟨v1, _, v2, _, v3, _, v4, _, rfl, rfl, ho1, ho2, ho3, ho4⟩
      · have hm := cd_f h3 hm
        refine c_skip ?_
        refine c_seq ?_
        refine c_region ?_
        refine o_T (y_move rfl) rfl ?_
        refine o_T (y_move rfl) rfl ?_
        obtain ⟨c1, hx1, hm⟩ := bd1 hm
        refine o_callC en_297 rfl s_nil (t297 (hr1.mono (fun _ hz => (ms (ms (ms (ms (ms (ms (mg hz))))))))) hx1) rfl (fun u1 S1 hR1 => ?_)
        obtain ⟨rfl, rfl⟩ := hR1
        refine o_rest ?_
        refine o_L (y_assign rfl) rfl rfl ?_
        refine o_nil0 rfl ?_
        refine c_seq ?_
        refine c_region ?_
        refine o_T (y_move rfl) rfl ?_
        refine o_T (y_move rfl) rfl ?_
        refine o_T (y_move rfl) rfl ?_
        refine o_T (y_move rfl) rfl ?_
        obtain ⟨c2, hx2, hm⟩ := bd1 hm
        refine o_callC en_298 rfl (s_take (s_take (s_take (s_take (s_take (s_take s_nil)))))) (t298 ho1 ho2 ho3 ho4 (hr1.mono (fun _ hz => (mg hz))) hx2) rfl (fun u2 S2 hR2 => ?_)
        obtain ⟨rfl, rfl⟩ := hR2
        refine o_rest ?_
        refine o_L (y_assign rfl) rfl rfl ?_
        refine o_nil0 rfl ?_
        refine c_seq ?_
        refine c_seq ?_
        refine c_region ?_
        refine o_T (y_move rfl) rfl ?_
        refine o_T (y_neq rfl rfl) rfl ?_
        refine o_nil1 35 rfl rfl ?_
        refine c_cond rfl (fun h4 => ?_) (fun h4 => ?_)
        · have hm := cd_t h4 hm
          refine c_seq ?_
          refine c_region ?_
          refine o_T (y_move rfl) rfl ?_
          refine o_L (y_assign rfl) rfl rfl ?_
          refine o_L (y_assign rfl) rfl rfl ?_
          refine o_nil0 rfl ?_
          refine c_ret ?_
          obtain ⟨rfl, rfl, rfl, rfl⟩ := pr4 hm
          refine fun aX wX heX hsX => ret2 Tryz.results274 heX rfl rfl (s_take (s_take (s_take (s_take (s_take (s_take (s_take s_nil))))))) ?_
          exact ⟨v1, _, v2, _, v3, _, v4, _, rfl, rfl, ho1, ho2, ho3, ho4⟩
        · have hm := cd_f h4 hm
          refine c_skip ?_
          refine c_seq ?_
          refine c_region ?_
          refine o_T (y_move rfl) rfl ?_
          obtain ⟨c3, hx3, hm⟩ := bd1 hm
          refine o_callC en_299 rfl (s_take s_nil) (t299 hx3) rfl (fun u3 S3 hR3 => ?_)
          obtain ⟨rfl, rfl⟩ := hR3
          refine o_rest ?_
          refine o_L (y_assign rfl) rfl rfl ?_
          refine o_nil0 rfl ?_
          refine c_seq ?_
          refine c_seq ?_
          refine c_region ?_
          refine o_T (y_move rfl) rfl ?_
          refine o_T (y_eql rfl rfl) rfl ?_
          refine o_nil1 40 rfl rfl ?_
          refine c_cond rfl (fun h5 => ?_) (fun h5 => ?_)
          · have hm := cd_t h5 hm
            refine c_seq ?_
            refine c_region ?_
            refine o_L (y_assign rfl) rfl rfl ?_
            refine o_L (y_assign rfl) rfl rfl ?_
            refine o_nil0 rfl ?_
            refine c_ret ?_
            obtain ⟨rfl, rfl, rfl, rfl⟩ := pr4 hm
            refine fun aX wX heX hsX => ret2 Tryz.results274 heX rfl rfl (s_take (s_take (s_take (s_take (s_take (s_take (s_take s_nil))))))) ?_
            exact ⟨v1, _, v2, _, v3, _, v4, _, rfl, rfl, ho1, ho2, ho3, ho4⟩
          · have hm := cd_f h5 hm
            refine c_skip ?_
            refine c_seq ?_
            refine c_region ?_
            refine o_T (y_move rfl) rfl ?_
            refine o_T (y_lenR hr1 Tryz.underlying81 rfl) rfl ?_
            obtain ⟨c4, hx4, hm⟩ := bd1 hm
            refine o_callC en_258 rfl s_nil (t258 hx4) rfl (fun u4 S4 hR4 => ?_)
            obtain ⟨rfl, rfl⟩ := hR4
            refine o_rest ?_
            refine o_L (y_assign rfl) rfl rfl ?_
            refine o_nil0 rfl ?_
            refine c_seq ?_
            refine c_region ?_
            refine o_T (y_move rfl) rfl ?_
            refine o_T (y_move rfl) rfl ?_
            obtain ⟨x1, c5, hx5, hm⟩ := bd2 hm
            refine o_callC en_300 rfl (s_take s_nil) (t300 hx5) rfl (fun u5 S5 hR5 => ?_)
            obtain ⟨rfl, rfl⟩ := hR5
            refine o_rest ?_
            refine o_T (y_move rfl) rfl ?_
            refine o_T (y_extract rfl rfl) rfl ?_
            refine o_T (y_extract rfl rfl) rfl ?_
            refine o_alloc ze_304 rfl rfl (fun b3 => ?_)
            obtain ⟨z1, hn1, hm⟩ := nm_s hm
            refine o_stNA ag_304 rfl rfl (encN_plain (fun _ => rfl) _ _) (encN_len encI_len _ _) (Upd.refl ((encN_len encI_len _ _).trans (encN_len encI_len _ _).symm)) r0 (show (encN encI z1 3) = _ from by subst hn1; rfl) ?_
            refine o_L (y_assign rfl) rfl rfl ?_
            refine o_nil0 rfl ?_
            refine c_seq ?_
            refine c_seq ?_
            refine c_region ?_
            refine o_T (y_move rfl) rfl ?_
            refine o_T (y_move rfl) rfl ?_
            refine o_T (y_lss rfl rfl) rfl ?_
            refine o_nil1 52 rfl rfl ?_
            refine c_cond rfl (fun h6 => ?_) (fun h6 => ?_)
            · have hm := cd_t h6 hm
              refine c_seq ?_
              refine c_region ?_
              refine o_L (y_assign rfl) rfl rfl ?_
              refine o_L (y_assign rfl) rfl rfl ?_
              refine o_nil0 rfl ?_
              refine c_ret ?_
              obtain ⟨rfl, rfl, rfl, rfl⟩ := pr4 hm
              refine fun aX wX heX hsX => ret2 Tryz.results274 heX rfl rfl (s_skip (s_take (s_take (s_take (s_take (s_take (s_take (s_take s_nil)))))))) ?_
              exact ⟨v1, _, v2, _, v3, _, v4, _, rfl, rfl, ho1, ho2, ho3, ho4⟩
            · have hm := cd_f h6 hm
              refine c_skip ?_
              refine c_seq ?_
              refine c_seq ?_
              refine c_region ?_
              refine o_L (y_assign rfl) rfl rfl ?_
              refine o_nil0 rfl ?_
              obtain ⟨c7, z4, z5, hj1, hm⟩ := bd3 hm
              refine c_joinP (n := 6) (fun sh G => ∃ (v10 : Value), ∃ (g9 : List Chunk), ∃ (v11 : Value), ∃ (g10 : List Chunk), ∃ (v12 : Value), ∃ (g11 : List Chunk), ∃ (v13 : Value), ∃ (g12 : List Chunk), sh = [(14, .int .i64 c7)] ∧ G = [[(b1, .cells (Store.enc (.pointer (some ⟨b2, 0, none⟩)) z4).toArray 126 (0, 0))], [(b2, .cells (Dev.enc (v10) (v11) (v12) (v13) z5).toArray 85 (0, 0))], g9, g10, g11, g12] ∧ Own rByte v10 z5.blk g9 ∧ Own rByte v11 z5.base g10 ∧ Own rInt v12 z5.at_ g11 ∧ Own rByte v13 z5.data g12) (s_get (ks k0) (s_get (ks k0) (s_get (ks k0) (s_get (ks k0) (s_get (ks k0) (s_get (ks k0) (s_take (s_take s_nil)))))))) (.s (.s (.s (.s (.s (.s .z)))))) (fun _ _ h => h) ?_ ?_
              · skip
                refine c_block ?_
                refine c_loopP (n := 6) (fun mm sh G => ∃ (c6 : Int), ∃ (z2 : Store), ∃ (z3 : Dev), ∃ (v6 : Value), ∃ (g5 : List Chunk), ∃ (v7 : Value), ∃ (g6 : List Chunk), ∃ (v8 : Value), ∃ (g7 : List Chunk), ∃ (v9 : Value), ∃ (g8 : List Chunk), sh = [(14, .int .i64 c6)] ∧ G = [[(b1, .cells (Store.enc (.pointer (some ⟨b2, 0, none⟩)) z2).toArray 126 (0, 0))], [(b2, .cells (Dev.enc (v6) (v7) (v8) (v9) z3).toArray 85 (0, 0))], g5, g6, g7, g8] ∧ m274_w1 n kind data c4 z1 mm c6 z2 z3 = some (c7, z4, z5) ∧ Own rByte v6 z3.blk g5 ∧ Own rByte v7 z3.base g6 ∧ Own rInt v8 z3.at_ g7 ∧ Own rByte v9 z3.data g8) n (s_get (ks k0) (s_get (ks k0) (s_get (ks k0) (s_get (ks k0) (s_get (ks k0) (s_get (ks k0) (s_take (s_take s_nil)))))))) (.s (.s (.s (.s (.s (.s .z)))))) ⟨_, _, ⟨_, _, _, v1, _, v2, _, v3, _, v4, _, rfl, rfl, hj1, ho1, ho2, ho3, ho4⟩, ⟨rfl, trivial⟩, _, (s_get (ks k0) (s_get (ks k0) (s_get (ks k0) (s_get (ks k0) (s_get (ks k0) (s_get (ks k0) (s_take (s_take s_nil))))))))⟩ ?_
                rintro mm sh G ⟨c6, z2, z3, v6, g5, v7, g6, v8, g7, v9, g8, rfl, rfl, hm, ho5, ho6, ho7, ho8⟩
                obtain ⟨mm1, rfl, hm⟩ := it3_s hm
                refine c_seq ?_
                refine c_seq ?_
                refine c_region ?_
                refine o_T (y_move rfl) rfl ?_
                refine o_T (y_move rfl) rfl ?_
                refine o_T (y_lss rfl rfl) rfl ?_
                refine o_nil1 55 rfl rfl ?_
                refine c_cond rfl (fun h7 => ?_) (fun h7 => ?_)
                · have hm := cd_t h7 hm
                  refine c_skip ?_
                  refine c_seq ?_
                  refine c_block ?_
                  refine c_seq ?_
                  refine c_region ?_
                  refine o_L (y_assign rfl) rfl rfl ?_
                  refine o_nil0 rfl ?_
                  refine c_seq ?_
                  refine c_seq ?_
                  refine c_region ?_
                  refine o_T (y_move rfl) rfl ?_
                  refine o_T (y_add rfl rfl rfl) rfl ?_
                  refine o_T (y_move rfl) rfl ?_
                  refine o_T (y_lss rfl rfl) rfl ?_
                  refine o_nil1 61 rfl rfl ?_
                  obtain ⟨c8, hj2, hm⟩ := bd1 hm
                  refine c_joinP (n := 0) (fun sh G => sh = [(15, .int .i64 c8)] ∧ G = []) (s_take (s_take (s_take (s_take (s_take (s_take (s_take (s_take s_nil)))))))) .z (fun _ _ h => h) ?_ ?_
                  · have hm := hj2
                    refine c_cond rfl (fun h8 => ?_) (fun h8 => ?_)
                    · have hm := cd_t h8 hm
                      refine c_region ?_
                      refine o_T (y_move rfl) rfl ?_
                      refine o_T (y_add rfl rfl rfl) rfl ?_
                      obtain ⟨_, hx6, hm⟩ := bd hm
                      have hx6 := ckA_some hx6
                      refine o_T (y_ia ar_304 rfl rfl hx6.1 hx6.2) rfl ?_
                      refine o_ld one_3 rfl (ms (ms (ms (ms (ms (ms m0)))))) (At.got (At.refl.comp (encN_a encI_len _ _ hx6.1 _ hx6.2))) rfl ?_
                      refine o_L (y_assign rfl) rfl rfl ?_
                      refine o_nil0 rfl ?_
                      obtain rfl := p1 hm
                      exact ⟨_, _, ⟨rfl, rfl⟩, ⟨rfl, trivial⟩, ⟨rfl, rfl⟩, _, (s_take (s_take (s_take (s_take (s_take (s_take (s_take (s_take s_nil))))))))⟩
                    · have hm := cd_f h8 hm
                      refine c_skip ?_
                      obtain rfl := p1 hm
                      exact ⟨_, _, ⟨rfl, rfl⟩, ⟨rfl, trivial⟩, ⟨rfl, rfl⟩, _, (s_take (s_take (s_take (s_take (s_take (s_take (s_take (s_take s_nil))))))))⟩
                  · rintro sh G ⟨rfl, rfl⟩
                    refine c_seq ?_
                    refine c_region ?_
                    refine o_T (y_move rfl) rfl ?_
                    refine o_T (y_move rfl) rfl ?_
                    refine o_T (y_move rfl) rfl ?_
                    refine o_T (y_move rfl) rfl ?_
                    refine o_T (y_mul rfl rfl rfl) rfl ?_
                    obtain ⟨l1, hx7, hm⟩ := bd1 hm
                    refine o_callC en_301 rfl s_nil (t301 (hr1.mono (fun _ hz => (ms (ms (ms (ms (ms (ms (ms (mg hz)))))))))) hx7) rfl (fun u6 S6 hR6 => ?_)
                    obtain ⟨v14, g13, rfl, rfl, ho13⟩ := hR6
                    refine o_rest ?_
                    refine o_L (y_assign rfl) rfl rfl ?_
                    refine o_nil0 rfl ?_
                    refine c_seq ?_
                    refine c_draw #[true, true, true, true, true, true, true, true, false] rfl (n := 9) rfl ?_
                    refine d_T 0 rfl sb_274_23_0 rfl (y_move rfl) rfl ?_
                    refine d_T 1 rfl sb_274_23_1 rfl (y_nilck rfl) rfl ?_
                    refine d_T 2 rfl sb_274_23_2 rfl (y_fa fl_126_0 rfl) rfl ?_
                    refine d_ld 3 rfl sb_274_23_3 one_27 rfl (fun x hx => hx) (ms m0) (At.got (At.refl.comp Store.a_d)) rfl ?_
                    refine d_T 4 rfl sb_274_23_4 rfl (y_move rfl) rfl ?_
                    obtain ⟨_, hx8, hm⟩ := bd hm
                    have hx8 := ckA_some hx8
                    refine d_T 5 rfl sb_274_23_5 rfl (y_ia ar_304 rfl rfl hx8.1 hx8.2) rfl ?_
                    refine d_ld 6 rfl sb_274_23_6 one_3 rfl (fun x hx => hx) (ms (ms (ms (ms (ms (ms (ms m0))))))) (At.got (At.refl.comp (encN_a encI_len _ _ hx8.1 _ hx8.2))) rfl ?_
                    refine d_T 7 rfl sb_274_23_7 rfl (y_move rfl) rfl ?_
                    refine d_hard 8 rfl sb_274_23_8 ?_
                    obtain ⟨c9, z6, hx9, hm⟩ := bd2 hm
                    refine o_callC en_302 rfl (s_skip (s_skip (s_take (s_take (s_take (s_take (s_take s_nil))))))) (t302 ho5 ho6 ho7 ho8 (ho13.rd.mono (fun _ hz => (mg hz))) hx9) rfl (fun u7 S7 hR7 => ?_)
                    obtain ⟨v15, g14, v16, g15, v17, g16, v18, g17, rfl, rfl, ho14, ho15, ho16, ho17⟩ := hR7
                    refine o_rest ?_
                    refine o_stop (fun h => nomatch h) ?_
                    refine d_nil0 sb_274_23_9 rfl ?_
                    refine c_region ?_
                    refine o_T (y_move rfl) rfl ?_
                    refine o_T (y_move rfl) rfl ?_
                    obtain ⟨_, hx10, hm⟩ := bd hm
                    have hx10 := ckA_some hx10
                    refine o_T (y_ia ar_304 rfl rfl hx10.1 hx10.2) rfl ?_
                    refine o_ld one_3 rfl (ms (ms (ms (ms (ms (ms (ms m0))))))) (At.got (At.refl.comp (encN_a encI_len _ _ hx10.1 _ hx10.2))) rfl ?_
                    obtain ⟨z7, hx11, hm⟩ := bd1 hm
                    refine o_callC en_242 rfl (s_skip (s_skip (s_skip (s_skip (s_skip (s_skip (s_take s_nil))))))) (t242 hx11) rfl (fun u8 S8 hR8 => ?_)
                    obtain ⟨rfl, rfl⟩ := hR8
                    refine o_rest ?_
                    refine o_nil0 rfl ?_
                    refine c_region ?_
                    refine o_T (y_move rfl) rfl ?_
                    refine o_T (y_add rfl rfl rfl) rfl ?_
                    refine o_L (y_assign rfl) rfl rfl ?_
                    refine o_nil0 rfl ?_
                    exact ⟨mm1, Nat.lt_succ_self _, _, _, ⟨_, _, _, v15, _, v16, _, v17, _, v18, _, rfl, rfl, hm, ho14, ho15, ho16, ho17⟩, ⟨rfl, trivial⟩, ⟨rfl, rfl⟩, _, (s_take (s_take (s_take (s_take (s_take (s_take (s_skip (s_take (s_take s_nil)))))))))⟩
                · have hm := cd_f h7 hm
                  refine c_exit ?_
                  obtain ⟨rfl, rfl, rfl⟩ := pr3 hm
                  exact ⟨_, _, ⟨v6, _, v7, _, v8, _, v9, _, rfl, rfl, ho5, ho6, ho7, ho8⟩, ⟨rfl, trivial⟩, ⟨rfl, rfl⟩, _, (s_take (s_take (s_take (s_take (s_take (s_take (s_take (s_take s_nil))))))))⟩
              · rintro sh G ⟨v10, g9, v11, g10, v12, g11, v13, g12, rfl, rfl, ho9, ho10, ho11, ho12⟩
                refine c_seq ?_
                refine c_draw #[true, true, true, true, true, true, true, true, true, true, true, true, false] rfl (n := 13) rfl ?_
                refine d_T 0 rfl sb_274_25_0 rfl (y_move rfl) rfl ?_
                refine d_T 1 rfl sb_274_25_1 rfl (y_move rfl) rfl ?_
                refine d_T 2 rfl sb_274_25_2 rfl (y_move rfl) rfl ?_
                refine d_T 3 rfl sb_274_25_3 rfl (y_move rfl) rfl ?_
                refine d_T 4 rfl sb_274_25_4 rfl (y_lenR hr1 Tryz.underlying81 rfl) rfl ?_
                refine d_T 5 rfl sb_274_25_5 rfl (y_ia ar_304 rfl rfl (show (0 : Int) ≤ 0 ∧ (0 : Int) < 3 from ⟨by decide, by decide⟩).1 (show (0 : Int) ≤ 0 ∧ (0 : Int) < 3 from ⟨by decide, by decide⟩).2) rfl ?_
                refine d_ld 6 rfl sb_274_25_6 one_3 rfl (fun x hx => hx) (ms (ms (ms (ms (ms (ms m0)))))) (At.got (At.refl.comp (encN_a encI_len _ _ (show (0 : Int) ≤ 0 ∧ (0 : Int) < 3 from ⟨by decide, by decide⟩).1 _ (show (0 : Int) ≤ 0 ∧ (0 : Int) < 3 from ⟨by decide, by decide⟩).2))) rfl ?_
                refine d_T 7 rfl sb_274_25_7 rfl (y_move rfl) rfl ?_
                refine d_T 8 rfl sb_274_25_8 rfl (y_build st_120 rfl (fbU rfl Entr.u_state rfl rfl (fbU rfl Entr.u_kind rfl rfl (fbU rfl Entr.u_size rfl rfl (fbU rfl Entr.u_first rfl rfl (fbU rfl Entr.u_hash rfl rfl fbU0)))))) rfl ?_
                refine d_T 9 rfl sb_274_25_9 rfl (y_nilck rfl) rfl ?_
                refine d_T 10 rfl sb_274_25_10 rfl (y_fa fl_126_1 rfl) rfl ?_
                obtain ⟨_, hx12, hm⟩ := bd hm
                have hx12 := ckA_some hx12
                refine d_T 11 rfl sb_274_25_11 rfl (y_ia ar_121 rfl rfl hx12.1 hx12.2) rfl ?_
                refine d_hard 12 rfl sb_274_25_12 ?_
                obtain ⟨z8, hn2, hm⟩ := nm_s hm
                refine o_stNA ag_120 rfl rfl (Entr.plain _) (Entr.len _) ((Upd.z Store.u_tab).comp (encN_u Entr.len _ _ _ hx12.1 _ hx12.2)) r0 (show (Store.enc (.pointer (some ⟨b2, 0, none⟩)) z8) = _ from by subst hn2; rfl) ?_
                refine o_stop (fun h => nomatch h) ?_
                refine d_nil0 sb_274_25_13 rfl ?_
                refine c_seq ?_
                refine c_region ?_
                refine o_T (y_move rfl) rfl ?_
                refine o_T (y_nilck rfl) rfl ?_
                refine o_T (y_fa fl_126_4 rfl) rfl ?_
                refine o_ld one_3 rfl m0 (At.got (At.refl.comp Store.a_nfree)) rfl ?_
                refine o_T (y_sub rfl rfl rfl) rfl ?_
                refine o_T (y_nilck rfl) rfl ?_
                refine o_T (y_fa fl_126_4 rfl) rfl ?_
                obtain ⟨z9, hn3, hm⟩ := nm_s hm
                refine o_stN one_3 rfl rfl rfl (Upd.z Store.u_nfree) r0 (show (Store.enc (.pointer (some ⟨b2, 0, none⟩)) z9) = _ from by subst hn3; rfl) ?_
                refine o_nil0 rfl ?_
                refine c_seq ?_
                refine c_region ?_
                refine o_T (y_move rfl) rfl ?_
                refine o_T (y_move rfl) rfl ?_
                obtain ⟨z10, hx13, hm⟩ := bd1 hm
                refine o_callC en_166 rfl (s_take s_nil) (t166 hx13) rfl (fun u9 S9 hR9 => ?_)
                obtain ⟨rfl, rfl⟩ := hR9
                refine o_rest ?_
                refine o_nil0 rfl ?_
                refine c_seq ?_
                refine c_region ?_
                refine o_T (y_move rfl) rfl ?_
                refine o_L (y_assign rfl) rfl rfl ?_
                refine o_L (y_assign rfl) rfl rfl ?_
                refine o_nil0 rfl ?_
                refine c_ret ?_
                obtain ⟨rfl, rfl, rfl, rfl⟩ := pr4 hm
                refine fun aX wX heX hsX => ret2 Tryz.results274 heX rfl rfl (s_take (s_take (s_take (s_take (s_take (s_take (s_skip (s_take s_nil)))))))) ?_
                exact ⟨v10, _, v11, _, v12, _, v13, _, rfl, rfl, ho9, ho10, ho11, ho12⟩
end Go.Proofs.Qxb6500350aGreat
