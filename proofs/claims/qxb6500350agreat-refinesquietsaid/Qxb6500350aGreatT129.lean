/- MADE BY PROGRAM (tools350/mir.py): mirror and walk. -/
import Derived.Test.Qxb6500350aGreatF2
import Derived.Test.Qxb6500350aGreatT152
import Derived.Test.Qxb6500350aGreatT211
import Derived.Test.Qxb6500350aGreatT212
import Derived.Test.Qxb6500350aGreatT213
import Derived.Test.Qxb6500350aGreatT214
import Derived.Test.Qxb6500350aGreatT215
set_option linter.unusedVariables false
set_option linter.unusedSimpArgs false
set_option maxRecDepth 20000
set_option maxHeartbeats 4000000
namespace Go.Proofs.Qxb6500350aGreat
open Go.Eng

def op_129_6 : Array Go.Oper := #[{ dst := some 25, op := Go.Op.move (Go.Operand.tmp 2), type := 65, pos := "commit.go:40", after := #[], guard := none }, { dst := some 26, op := Go.Op.call { callee := Go.Callee.builtin Go.Builtin.len, args := #[Go.Operand.tmp 25], argTypes := #[65] }, type := 3, pos := "commit.go:40", after := #[{ on := 0, ground := Go.Ground.data }], guard := none }, { dst := some 27, op := Go.Op.binOp Go.BinOp.eql 3 (Go.Operand.tmp 26) (Go.Operand.const (Go.Value.int Go.IntKind.i64 2)) 3, type := 4, pos := "commit.go:40", after := #[{ on := 1, ground := Go.Ground.data }], guard := none }, { dst := some 28, op := Go.Op.move (Go.Operand.tmp 27), type := 4, pos := "commit.go:40", after := #[{ on := 2, ground := Go.Ground.data }], guard := none }, { dst := some 29, op := Go.Op.move (Go.Operand.tmp 2), type := 65, pos := "commit.go:40", after := #[{ on := 3, ground := Go.Ground.guard }], guard := some (3, true) }, { dst := some 30, op := Go.Op.indexAddr 65 (Go.Operand.tmp 29) (Go.Operand.const (Go.Value.int Go.IntKind.i64 0)), type := 0, pos := "commit.go:40", after := #[{ on := 4, ground := Go.Ground.data }, { on := 3, ground := Go.Ground.guard }], guard := some (3, true) }, { dst := some 31, op := Go.Op.load 3 (Go.Operand.tmp 30), type := 3, pos := "commit.go:40", after := #[{ on := 5, ground := Go.Ground.data }, { on := 3, ground := Go.Ground.guard }], guard := some (3, true) }, { dst := some 32, op := Go.Op.move (Go.Operand.tmp 2), type := 65, pos := "commit.go:40", after := #[{ on := 3, ground := Go.Ground.guard }], guard := some (3, true) }, { dst := some 33, op := Go.Op.indexAddr 65 (Go.Operand.tmp 32) (Go.Operand.const (Go.Value.int Go.IntKind.i64 1)), type := 0, pos := "commit.go:40", after := #[{ on := 7, ground := Go.Ground.data }, { on := 3, ground := Go.Ground.guard }], guard := some (3, true) }, { dst := some 34, op := Go.Op.load 3 (Go.Operand.tmp 33), type := 3, pos := "commit.go:40", after := #[{ on := 8, ground := Go.Ground.data }, { on := 3, ground := Go.Ground.guard }], guard := some (3, true) }, { dst := some 35, op := Go.Op.binOp Go.BinOp.eql 3 (Go.Operand.tmp 31) (Go.Operand.tmp 34) 3, type := 4, pos := "commit.go:40", after := #[{ on := 6, ground := Go.Ground.data }, { on := 9, ground := Go.Ground.data }, { on := 3, ground := Go.Ground.guard }], guard := some (3, true) }, { dst := some 36, op := Go.Op.pick (Go.Operand.tmp 28) (Go.Operand.tmp 35) (Go.Operand.const (Go.Value.bool false)), type := 4, pos := "commit.go:40", after := #[{ on := 3, ground := Go.Ground.data }, { on := 10, ground := Go.Ground.data }], guard := none }]
def op_129_28 : Array Go.Oper := #[{ dst := some 96, op := Go.Op.move (Go.Operand.tmp 0), type := 30, pos := "commit.go:67", after := #[], guard := none }, { dst := some 97, op := Go.Op.move (Go.Operand.tmp 16), type := 3, pos := "commit.go:67", after := #[], guard := none }, { dst := some 98, op := Go.Op.load 172 (Go.Operand.tmp 11), type := 172, pos := "commit.go:67", after := #[], guard := none }, { dst := some 99, op := Go.Op.nilCheck (Go.Operand.tmp 96), type := 0, pos := "commit.go:67", after := #[{ on := 0, ground := Go.Ground.data }], guard := none }, { dst := some 100, op := Go.Op.fieldAddr 179 (Go.Operand.tmp 99) 1, type := 0, pos := "commit.go:67", after := #[{ on := 3, ground := Go.Ground.data }], guard := none }, { dst := some 101, op := Go.Op.indexAddr 173 (Go.Operand.tmp 100) (Go.Operand.tmp 97), type := 0, pos := "commit.go:67", after := #[{ on := 4, ground := Go.Ground.data }, { on := 1, ground := Go.Ground.data }, { on := 0, ground := Go.Ground.phase }, { on := 1, ground := Go.Ground.phase }, { on := 2, ground := Go.Ground.phase }], guard := none }, { dst := none, op := Go.Op.store 172 (Go.Operand.tmp 101) (Go.Operand.tmp 98), type := 0, pos := "commit.go:67", after := #[{ on := 5, ground := Go.Ground.data }, { on := 2, ground := Go.Ground.data }, { on := 0, ground := Go.Ground.phase }, { on := 1, ground := Go.Ground.phase }, { on := 2, ground := Go.Ground.phase }], guard := none }]
theorem sb_129_6_0 : softB op_129_6 #[true, true, true, true, true, true, true, true, true, true, true, true] (Array.replicate 12 false) 0 = true := by kernel_rfl
theorem sb_129_6_1 : softB op_129_6 #[true, true, true, true, true, true, true, true, true, true, true, true] ((Array.replicate 12 false).setIfInBounds 0 true) 1 = true := by kernel_rfl
theorem sb_129_6_2 : softB op_129_6 #[true, true, true, true, true, true, true, true, true, true, true, true] (((Array.replicate 12 false).setIfInBounds 0 true).setIfInBounds 1 true) 2 = true := by kernel_rfl
theorem sb_129_6_3 : softB op_129_6 #[true, true, true, true, true, true, true, true, true, true, true, true] ((((Array.replicate 12 false).setIfInBounds 0 true).setIfInBounds 1 true).setIfInBounds 2 true) 3 = true := by kernel_rfl
theorem sb_129_6_4 : softB op_129_6 #[true, true, true, true, true, true, true, true, true, true, true, true] (((((Array.replicate 12 false).setIfInBounds 0 true).setIfInBounds 1 true).setIfInBounds 2 true).setIfInBounds 3 true) 4 = true := by kernel_rfl
theorem sb_129_6_5 : softB op_129_6 #[true, true, true, true, true, true, true, true, true, true, true, true] ((((((Array.replicate 12 false).setIfInBounds 0 true).setIfInBounds 1 true).setIfInBounds 2 true).setIfInBounds 3 true).setIfInBounds 4 true) 5 = true := by kernel_rfl
theorem sb_129_6_6 : softB op_129_6 #[true, true, true, true, true, true, true, true, true, true, true, true] (((((((Array.replicate 12 false).setIfInBounds 0 true).setIfInBounds 1 true).setIfInBounds 2 true).setIfInBounds 3 true).setIfInBounds 4 true).setIfInBounds 5 true) 6 = true := by kernel_rfl
theorem sb_129_6_7 : softB op_129_6 #[true, true, true, true, true, true, true, true, true, true, true, true] ((((((((Array.replicate 12 false).setIfInBounds 0 true).setIfInBounds 1 true).setIfInBounds 2 true).setIfInBounds 3 true).setIfInBounds 4 true).setIfInBounds 5 true).setIfInBounds 6 true) 7 = true := by kernel_rfl
theorem sb_129_6_8 : softB op_129_6 #[true, true, true, true, true, true, true, true, true, true, true, true] (((((((((Array.replicate 12 false).setIfInBounds 0 true).setIfInBounds 1 true).setIfInBounds 2 true).setIfInBounds 3 true).setIfInBounds 4 true).setIfInBounds 5 true).setIfInBounds 6 true).setIfInBounds 7 true) 8 = true := by kernel_rfl
theorem sb_129_6_9 : softB op_129_6 #[true, true, true, true, true, true, true, true, true, true, true, true] ((((((((((Array.replicate 12 false).setIfInBounds 0 true).setIfInBounds 1 true).setIfInBounds 2 true).setIfInBounds 3 true).setIfInBounds 4 true).setIfInBounds 5 true).setIfInBounds 6 true).setIfInBounds 7 true).setIfInBounds 8 true) 9 = true := by kernel_rfl
theorem sb_129_6_10 : softB op_129_6 #[true, true, true, true, true, true, true, true, true, true, true, true] (((((((((((Array.replicate 12 false).setIfInBounds 0 true).setIfInBounds 1 true).setIfInBounds 2 true).setIfInBounds 3 true).setIfInBounds 4 true).setIfInBounds 5 true).setIfInBounds 6 true).setIfInBounds 7 true).setIfInBounds 8 true).setIfInBounds 9 true) 10 = true := by kernel_rfl
theorem sb_129_6_11 : softB op_129_6 #[true, true, true, true, true, true, true, true, true, true, true, true] ((((((((((((Array.replicate 12 false).setIfInBounds 0 true).setIfInBounds 1 true).setIfInBounds 2 true).setIfInBounds 3 true).setIfInBounds 4 true).setIfInBounds 5 true).setIfInBounds 6 true).setIfInBounds 7 true).setIfInBounds 8 true).setIfInBounds 9 true).setIfInBounds 10 true) 11 = true := by kernel_rfl
theorem sb_129_6_12 : hardB op_129_6 (((((((((((((Array.replicate 12 false).setIfInBounds 0 true).setIfInBounds 1 true).setIfInBounds 2 true).setIfInBounds 3 true).setIfInBounds 4 true).setIfInBounds 5 true).setIfInBounds 6 true).setIfInBounds 7 true).setIfInBounds 8 true).setIfInBounds 9 true).setIfInBounds 10 true).setIfInBounds 11 true) [] = true := by kernel_rfl
theorem sb_129_28_0 : softB op_129_28 #[true, true, true, true, true, true, false] (Array.replicate 7 false) 0 = true := by kernel_rfl
theorem sb_129_28_1 : softB op_129_28 #[true, true, true, true, true, true, false] ((Array.replicate 7 false).setIfInBounds 0 true) 1 = true := by kernel_rfl
theorem sb_129_28_2 : softB op_129_28 #[true, true, true, true, true, true, false] (((Array.replicate 7 false).setIfInBounds 0 true).setIfInBounds 1 true) 2 = true := by kernel_rfl
theorem sb_129_28_3 : softB op_129_28 #[true, true, true, true, true, true, false] ((((Array.replicate 7 false).setIfInBounds 0 true).setIfInBounds 1 true).setIfInBounds 2 true) 3 = true := by kernel_rfl
theorem sb_129_28_4 : softB op_129_28 #[true, true, true, true, true, true, false] (((((Array.replicate 7 false).setIfInBounds 0 true).setIfInBounds 1 true).setIfInBounds 2 true).setIfInBounds 3 true) 4 = true := by kernel_rfl
theorem sb_129_28_5 : softB op_129_28 #[true, true, true, true, true, true, false] ((((((Array.replicate 7 false).setIfInBounds 0 true).setIfInBounds 1 true).setIfInBounds 2 true).setIfInBounds 3 true).setIfInBounds 4 true) 5 = true := by kernel_rfl
theorem sb_129_28_6 : hardB op_129_28 (((((((Array.replicate 7 false).setIfInBounds 0 true).setIfInBounds 1 true).setIfInBounds 2 true).setIfInBounds 3 true).setIfInBounds 4 true).setIfInBounds 5 true) [6] = true := by kernel_rfl
theorem sb_129_28_7 : hardB op_129_28 ((((((((Array.replicate 7 false).setIfInBounds 0 true).setIfInBounds 1 true).setIfInBounds 2 true).setIfInBounds 3 true).setIfInBounds 4 true).setIfInBounds 5 true).setIfInBounds 6 true) [] = true := by kernel_rfl
/- (*graph.Graph).Commit -/
def m129_w1 (n : Nat) (g : Graph) (t : Trees) (s : Store) (d : Dev) (parents : (List Int)) (mm : Nat) : Int → Com → Option (Flow (Int × Int × Graph × Trees × Store × Dev) (Int × Com)) := it2 (fun lp1 c3 z4 =>
cond (decide (c3 < (parents.length : Int))) (
Option.bind (ixL parents c3) fun x3 =>
ob1 (m211 n g x3) fun c5 =>
cond (decide (c5 = 0)) (
Option.bind (some (0, 17, g, t, s, d)) fun q1 => some (.ret q1)) (
Option.bind (ckA c3 2) fun _ =>
nm ({ z4 with par := (upI z4.par c3 c5) } : Com) fun z7 =>
lp1 (wi (c3 + 1)) z7)) (
some (.nx (c3, z4)))) mm
def m129 (n : Nat) (g : Graph) (t : Trees) (s : Store) (d : Dev) (files : (List File)) (parents : (List Int)) (msg : Str) : Option (Int × Int × Graph × Trees × Store × Dev) :=
ob1 (m152 n files) fun c1 =>
cond (decide (¬ (c1 = 0))) (
some (0, c1, g, t, s, d)) (
cond (decide ((2 : Int) < (parents.length : Int))) (
some (0, 18, g, t, s, d)) (
ob1 (cond (decide ((parents.length : Int) = 2)) (Option.bind (ixL parents 0) fun x1 =>
Option.bind (ixL parents 1) fun x2 =>
some ((decide (x1 = x2)))) (some (false))) fun c2 =>
cond c2 (
some (0, 18, g, t, s, d)) (
nm (({ Com.zero with used := true, seq := g.nxt, np := (parents.length : Int) }) : Com) fun z3 =>
flow (m129_w1 n g t s d parents n 0 z3) some (un2 fun c4 z5 =>
cond (decide ((16 : Int) < (msg.length : Int))) (
some (0, 19, g, t, s, d)) (
cond (decide ((40 : Int) ≤ g.n)) (
some (0, 8, g, t, s, d)) (
ob5 (m212 n g t s d files) fun c6 c7 z8 z9 z10 =>
cond (decide (¬ (c7 = 0))) (
some (0, c7, g, z8, z9, z10)) (
nm ({ z5 with tree := c6 } : Com) fun z11 =>
ob1 (m213 n z11 msg) fun l1 =>
ob5 (m214 n z8 z9 z10 3 l1) fun c8 c9 z12 z13 z14 =>
cond (decide (¬ (c9 = 0))) (
some (0, c9, g, z12, z13, z14)) (
Option.bind (ckA c8 49) fun _ =>
nm ({ g with com := (upI g.com c8 z11) } : Graph) fun z15 =>
ob1 (m215 n z15 c8) fun z16 =>
nm ({ z16 with nxt := (wi (z16.nxt + 1)) } : Graph) fun z17 =>
some (z11.seq, 0, z17, z12, z13, z14)))))))))
theorem t129 {n : Nat} {C : List Chunk} {rc1 : Int} {rc2 : Int} {rz1 : Graph} {rz2 : Trees} {rz3 : Store} {rz4 : Dev} {b1 : Nat} {g : Graph} {b2 : Nat} {t : Trees} {b3 : Nat} {s : Store} {b4 : Nat} {d : Dev} {v1 : Value} {g1 : List Chunk} {v2 : Value} {g2 : List Chunk} {v3 : Value} {g3 : List Chunk} {v4 : Value} {g4 : List Chunk} {v5 : Value} {files : (List File)} {v6 : Value} {parents : (List Int)} {msg : Str} (ho1 : Own rByte v1 d.blk g1) (ho2 : Own rByte v2 d.base g2) (ho3 : Own rInt v3 d.at_ g3) (ho4 : Own rByte v4 d.data g4) (hr1 : Rd rFile C v5 files) (hr2 : Rd rInt C v6 parents)  (hm : m129 n g t s d files parents msg = some (rc1, rc2, rz1, rz2, rz3, rz4)) : Trip Tryz.prog 129 #[.pointer (some ⟨b1, 0, none⟩), v5, v6, .string ⟨(msg : Str).toArray⟩] ([[(b1, .cells (Graph.enc (.pointer (some ⟨b2, 0, none⟩)) g).toArray 179 (0, 0))], [(b2, .cells (Trees.enc (.pointer (some ⟨b3, 0, none⟩)) t).toArray 169 (0, 0))], [(b3, .cells (Store.enc (.pointer (some ⟨b4, 0, none⟩)) s).toArray 126 (0, 0))], [(b4, .cells (Dev.enc (v1) (v2) (v3) (v4) d).toArray 85 (0, 0))], g1, g2, g3, g4] ++ [C]) (fun u S' => ∃ (ev1 : Value), ∃ (eg1 : List Chunk), ∃ (ev2 : Value), ∃ (eg2 : List Chunk), ∃ (ev3 : Value), ∃ (eg3 : List Chunk), ∃ (ev4 : Value), ∃ (eg4 : List Chunk), .tuple #[.int .i64 rc1, .int .i64 rc2] = u ∧ S' = [[(b1, .cells (Graph.enc (.pointer (some ⟨b2, 0, none⟩)) rz1).toArray 179 (0, 0))], [(b2, .cells (Trees.enc (.pointer (some ⟨b3, 0, none⟩)) rz2).toArray 169 (0, 0))], [(b3, .cells (Store.enc (.pointer (some ⟨b4, 0, none⟩)) rz3).toArray 126 (0, 0))], [(b4, .cells (Dev.enc (ev1) (ev2) (ev3) (ev4) rz4).toArray 85 (0, 0))], eg1, eg2, eg3, eg4] ++ [C] ∧ Own rByte ev1 rz4.blk eg1 ∧ Own rByte ev2 rz4.base eg2 ∧ Own rInt ev3 rz4.at_ eg3 ∧ Own rByte ev4 rz4.data eg4) := by
  refine fn_entry (args := [.pointer (some ⟨b1, 0, none⟩), v5, v6, .string ⟨(msg : Str).toArray⟩]) Tryz.func129 rfl Tryz.ntmps129 rfl (fun w0 => ?_)
  refine c_seq ?_
  refine c_region ?_
  refine o_L (y_assign rfl) rfl rfl ?_
  refine o_L (y_assign rfl) rfl rfl ?_
  refine o_nil0 rfl ?_
  refine c_seq ?_
  refine c_region ?_
  refine o_T (y_move rfl) rfl ?_
  obtain ⟨c1, hx1, hm⟩ := bd1 hm
  refine o_callC en_152 rfl s_nil (t152 (hr1.mono (fun _ hz => (ms (ms (ms (ms (ms (ms (ms (ms (mg hz))))))))))) hx1) rfl (fun u1 S1 hR1 => ?_)
  obtain ⟨rfl, rfl⟩ := hR1
  refine o_rest ?_
  refine o_L (y_assign rfl) rfl rfl ?_
  refine o_nil0 rfl ?_
  refine c_seq ?_
  refine c_seq ?_
  refine c_region ?_
  refine o_T (y_move rfl) rfl ?_
  refine o_T (y_neq rfl rfl) rfl ?_
  refine o_nil1 20 rfl rfl ?_
  refine c_cond rfl (fun h1 => ?_) (fun h1 => ?_)
  · have hm := cd_t h1 hm
    refine c_seq ?_
    refine c_region ?_
    refine o_T (y_move rfl) rfl ?_
    refine o_L (y_assign rfl) rfl rfl ?_
    refine o_L (y_assign rfl) rfl rfl ?_
    refine o_nil0 rfl ?_
    refine c_ret ?_
    obtain ⟨rfl, rfl, rfl, rfl, rfl, rfl⟩ := pr6 hm
    refine fun aX wX heX hsX => ret2 Tryz.results129 heX rfl rfl (s_take (s_take (s_take (s_take (s_take (s_take (s_take (s_take (s_take s_nil))))))))) ?_
    exact ⟨v1, _, v2, _, v3, _, v4, _, rfl, rfl, ho1, ho2, ho3, ho4⟩
  · have hm := cd_f h1 hm
    refine c_skip ?_
    refine c_seq ?_
    refine c_seq ?_
    refine c_region ?_
    refine o_T (y_move rfl) rfl ?_
    refine o_T (y_lenR hr2 Tryz.underlying65 rfl) rfl ?_
    refine o_T (y_gtr rfl rfl) rfl ?_
    refine o_nil1 24 rfl rfl ?_
    refine c_cond rfl (fun h2 => ?_) (fun h2 => ?_)
    · have hm := cd_t h2 hm
      refine c_seq ?_
      refine c_region ?_
      refine o_L (y_assign rfl) rfl rfl ?_
      refine o_L (y_assign rfl) rfl rfl ?_
      refine o_nil0 rfl ?_
      refine c_ret ?_
      obtain ⟨rfl, rfl, rfl, rfl, rfl, rfl⟩ := pr6 hm
      refine fun aX wX heX hsX => ret2 Tryz.results129 heX rfl rfl (s_take (s_take (s_take (s_take (s_take (s_take (s_take (s_take (s_take s_nil))))))))) ?_
      exact ⟨v1, _, v2, _, v3, _, v4, _, rfl, rfl, ho1, ho2, ho3, ho4⟩
    · have hm := cd_f h2 hm
      refine c_skip ?_
      refine c_seq ?_
      refine c_seq ?_
      obtain ⟨c2, hj1, hm⟩ := bd1 hm
      refine c_joinP (n := 0) (fun sh G => sh = [(36, .bool c2)] ∧ G = []) Sel.all' .z (fun _ _ h => h) ?_ ?_
      · have hm := hj1
        refine c_draw #[true, true, true, true, true, true, true, true, true, true, true, true] rfl (n := 12) rfl ?_
        refine d_T 0 rfl sb_129_6_0 rfl (y_move rfl) rfl ?_
        refine d_T 1 rfl sb_129_6_1 rfl (y_lenR hr2 Tryz.underlying65 rfl) rfl ?_
        refine d_T 2 rfl sb_129_6_2 rfl (y_eql rfl rfl) rfl ?_
        refine d_T 3 rfl sb_129_6_3 rfl (y_move rfl) rfl ?_
        refine d_split 28 rfl (fun h3 => ?_) (fun h3 => ?_)
        · have hm := cd_t h3 hm
          refine d_Tg 4 rfl rfl rfl rfl sb_129_6_4 rfl (y_move rfl) rfl ?_
          obtain ⟨x1, hx2, hm⟩ := bd hm
          obtain ⟨b5, w1, cs1, y1, z1, vs1, hc1, ha1, hr3, hy1⟩ := hr2.ix hx2
          obtain rfl : vs1 = (encI x1) := hr3
          refine d_Tg 5 rfl rfl rfl rfl sb_129_6_5 rfl (hy1 sl_65 rfl rfl rfl) rfl ?_
          refine d_ldt 6 rfl rfl rfl rfl sb_129_6_6 one_3 rfl (fun x hx => hx) (ms (ms (ms (ms (ms (ms (ms (ms (mg hc1))))))))) (At.getA (ha1)) rfl ?_
          refine d_Tg 7 rfl rfl rfl rfl sb_129_6_7 rfl (y_move rfl) rfl ?_
          obtain ⟨x2, hx3, hm⟩ := bd hm
          obtain ⟨b6, w2, cs2, y2, z2, vs2, hc2, ha2, hr4, hy2⟩ := hr2.ix hx3
          obtain rfl : vs2 = (encI x2) := hr4
          refine d_Tg 8 rfl rfl rfl rfl sb_129_6_8 rfl (hy2 sl_65 rfl rfl rfl) rfl ?_
          refine d_ldt 9 rfl rfl rfl rfl sb_129_6_9 one_3 rfl (fun x hx => hx) (ms (ms (ms (ms (ms (ms (ms (ms (mg hc2))))))))) (At.getA (ha2)) rfl ?_
          refine d_Tg 10 rfl rfl rfl rfl sb_129_6_10 rfl (y_eql rfl rfl) rfl ?_
          refine d_T 11 rfl sb_129_6_11 rfl (y_pickT rfl rfl) rfl ?_
          refine d_nil1 36 sb_129_6_12 rfl rfl ?_
          obtain rfl := p1 hm
          exact ⟨_, _, ⟨rfl, rfl⟩, ⟨rfl, trivial⟩, ⟨rfl, rfl⟩, _, (s_take (s_take (s_take (s_take (s_take (s_take (s_take (s_take (s_take s_nil)))))))))⟩
        · have hm := cd_f h3 hm
          refine d_pass 4 rfl rfl rfl rfl rfl sb_129_6_4 (fun x hx => hx) rfl ?_
          refine d_pass 5 rfl rfl rfl rfl rfl sb_129_6_5 (fun x hx => hx) rfl ?_
          refine d_pass 6 rfl rfl rfl rfl rfl sb_129_6_6 (fun x hx => hx) rfl ?_
          refine d_pass 7 rfl rfl rfl rfl rfl sb_129_6_7 (fun x hx => hx) rfl ?_
          refine d_pass 8 rfl rfl rfl rfl rfl sb_129_6_8 (fun x hx => hx) rfl ?_
          refine d_pass 9 rfl rfl rfl rfl rfl sb_129_6_9 (fun x hx => hx) rfl ?_
          refine d_pass 10 rfl rfl rfl rfl rfl sb_129_6_10 (fun x hx => hx) rfl ?_
          refine d_T 11 rfl sb_129_6_11 rfl (y_pickF rfl rfl) rfl ?_
          refine d_nil1 36 sb_129_6_12 rfl rfl ?_
          obtain rfl := p1 hm
          exact ⟨_, _, ⟨rfl, rfl⟩, ⟨rfl, trivial⟩, ⟨rfl, rfl⟩, _, (s_take (s_take (s_take (s_take (s_take (s_take (s_take (s_take (s_take s_nil)))))))))⟩
      · rintro sh G ⟨rfl, rfl⟩
        refine c_cond rfl (fun h4 => ?_) (fun h4 => ?_)
        · have hm := cd_t h4 hm
          refine c_seq ?_
          refine c_region ?_
          refine o_L (y_assign rfl) rfl rfl ?_
          refine o_L (y_assign rfl) rfl rfl ?_
          refine o_nil0 rfl ?_
          refine c_ret ?_
          obtain ⟨rfl, rfl, rfl, rfl, rfl, rfl⟩ := pr6 hm
          refine fun aX wX heX hsX => ret2 Tryz.results129 heX rfl rfl (s_take (s_take (s_take (s_take (s_take (s_take (s_take (s_take (s_take s_nil))))))))) ?_
          exact ⟨v1, _, v2, _, v3, _, v4, _, rfl, rfl, ho1, ho2, ho3, ho4⟩
        · have hm := cd_f h4 hm
          refine c_skip ?_
          refine c_seq ?_
          refine c_region ?_
          refine o_T (y_move rfl) rfl ?_
          refine o_T (y_nilck rfl) rfl ?_
          refine o_T (y_fa fl_179_10 rfl) rfl ?_
          refine o_ld one_3 rfl m0 (At.got (At.refl.comp Graph.a_nxt)) rfl ?_
          refine o_T (y_move rfl) rfl ?_
          refine o_T (y_lenR hr2 Tryz.underlying65 rfl) rfl ?_
          refine o_T (y_build st_172 rfl (fbU rfl Com.u_used rfl rfl (fbU rfl Com.u_seq rfl rfl (fbU rfl Com.u_np rfl rfl fbU0)))) rfl ?_
          refine o_alloc ze_172 rfl rfl (fun b7 => ?_)
          obtain ⟨z3, hn1, hm⟩ := nm_s hm
          refine o_stNA ag_172 rfl rfl (Com.plain _) (Com.len _) (Upd.refl ((Com.len _).trans (Com.len _).symm)) r0 (show (Com.enc z3) = _ from by subst hn1; rfl) ?_
          refine o_nil0 rfl ?_
          refine c_seq ?_
          refine c_seq ?_
          refine c_region ?_
          refine o_L (y_assign rfl) rfl rfl ?_
          refine o_nil0 rfl ?_
          obtain ⟨f1, F1, hF1, hj2, hF2⟩ := fl2 hm
          refine c_joinP (n := 1) (fun sh G => ∃ (c4 : Int), ∃ (z5 : Com), sh = [(12, .int .i64 c4)] ∧ G = [[(b7, .cells (Com.enc z5).toArray 172 (0, 0))]] ∧ F1 (c4, z5) = some (rc1, rc2, rz1, rz2, rz3, rz4)) (s_take (s_take (s_take (s_take (s_take (s_take (s_take (s_take (s_take (s_take s_nil)))))))))) (.s .z) (fun _ _ h => h) ?_ ?_
          · skip
            refine c_block ?_
            refine c_loopP (n := 1) (fun mm sh G => ∃ (c3 : Int), ∃ (z4 : Com), sh = [(12, .int .i64 c3)] ∧ G = [[(b7, .cells (Com.enc z4).toArray 172 (0, 0))]] ∧ m129_w1 n g t s d parents mm c3 z4 = some f1) n (s_take (s_take (s_take (s_take (s_take (s_take (s_take (s_take (s_take (s_take s_nil)))))))))) (.s .z) ⟨_, _, ⟨_, _, rfl, rfl, hj2⟩, ⟨rfl, trivial⟩, _, (s_take (s_take (s_take (s_take (s_take (s_take (s_take (s_take (s_take (s_take s_nil))))))))))⟩ ?_
            rintro mm sh G ⟨c3, z4, rfl, rfl, hm⟩
            obtain ⟨mm1, rfl, hm⟩ := it2_s hm
            refine c_seq ?_
            refine c_seq ?_
            refine c_region ?_
            refine o_T (y_move rfl) rfl ?_
            refine o_T (y_move rfl) rfl ?_
            refine o_T (y_lenR hr2 Tryz.underlying65 rfl) rfl ?_
            refine o_T (y_lss rfl rfl) rfl ?_
            refine o_nil1 47 rfl rfl ?_
            refine c_cond rfl (fun h5 => ?_) (fun h5 => ?_)
            · have hm := cd_t h5 hm
              refine c_skip ?_
              refine c_seq ?_
              refine c_block ?_
              refine c_seq ?_
              refine c_region ?_
              refine o_T (y_move rfl) rfl ?_
              refine o_T (y_move rfl) rfl ?_
              refine o_T (y_move rfl) rfl ?_
              obtain ⟨x3, hx4, hm⟩ := bd hm
              obtain ⟨b8, w3, cs3, y3, z6, vs3, hc3, ha3, hr5, hy3⟩ := hr2.ix hx4
              obtain rfl : vs3 = (encI x3) := hr5
              refine o_T (hy3 sl_65 rfl rfl rfl) rfl ?_
              refine o_ld one_3 rfl (ms (ms (ms (ms (ms (ms (ms (ms (ms (mg hc3)))))))))) (At.getA (ha3)) rfl ?_
              obtain ⟨c5, hx5, hm⟩ := bd1 hm
              refine o_callC en_211 rfl (s_skip (s_take s_nil)) (t211 hx5) rfl (fun u2 S2 hR2 => ?_)
              obtain ⟨rfl, rfl⟩ := hR2
              refine o_rest ?_
              refine o_L (y_assign rfl) rfl rfl ?_
              refine o_nil0 rfl ?_
              refine c_seq ?_
              refine c_seq ?_
              refine c_region ?_
              refine o_T (y_move rfl) rfl ?_
              refine o_T (y_eql rfl rfl) rfl ?_
              refine o_nil1 57 rfl rfl ?_
              refine c_cond rfl (fun h6 => ?_) (fun h6 => ?_)
              · have hm := cd_t h6 hm
                refine c_seq ?_
                refine c_region ?_
                refine o_L (y_assign rfl) rfl rfl ?_
                refine o_L (y_assign rfl) rfl rfl ?_
                refine o_nil0 rfl ?_
                refine c_ret ?_
                obtain ⟨q1, hq1, hm⟩ := bd hm
                have hm := fl_ret hm hF2
                have hm := hq1.trans hm
                obtain ⟨rfl, rfl, rfl, rfl, rfl, rfl⟩ := pr6 hm
                refine fun aX wX heX hsX => ret2 Tryz.results129 heX rfl rfl (s_take (s_skip (s_take (s_take (s_take (s_take (s_take (s_take (s_take (s_take s_nil)))))))))) ?_
                exact ⟨v1, _, v2, _, v3, _, v4, _, rfl, rfl, ho1, ho2, ho3, ho4⟩
              · have hm := cd_f h6 hm
                refine c_skip ?_
                refine c_region ?_
                refine o_T (y_move rfl) rfl ?_
                refine o_T (y_move rfl) rfl ?_
                refine o_T (y_fa fl_172_4 rfl) rfl ?_
                obtain ⟨_, hx6, hm⟩ := bd hm
                have hx6 := ckA_some hx6
                refine o_T (y_ia ar_170 rfl rfl hx6.1 hx6.2) rfl ?_
                obtain ⟨z7, hn2, hm⟩ := nm_s hm
                refine o_stN one_3 rfl rfl rfl ((Upd.z Com.u_par).comp (encN_u encI_len _ _ _ hx6.1 _ hx6.2)) (rs r0) (show (Com.enc z7) = _ from by subst hn2; rfl) ?_
                refine o_nil0 rfl ?_
                refine c_region ?_
                refine o_T (y_move rfl) rfl ?_
                refine o_T (y_add rfl rfl rfl) rfl ?_
                refine o_L (y_assign rfl) rfl rfl ?_
                refine o_nil0 rfl ?_
                exact ⟨mm1, Nat.lt_succ_self _, _, _, ⟨_, _, rfl, rfl, hm⟩, ⟨rfl, trivial⟩, ⟨rfl, rfl⟩, _, (s_get (ks k0) (s_take (s_take (s_take (s_take (s_take (s_take (s_take (s_take (s_take s_nil))))))))))⟩
            · have hm := cd_f h5 hm
              refine c_exit ?_
              have hm := fl_nx hm hF2
              exact ⟨_, _, ⟨_, _, rfl, rfl, hm⟩, ⟨rfl, trivial⟩, ⟨rfl, rfl⟩, _, (s_take (s_take (s_take (s_take (s_take (s_take (s_take (s_take (s_take (s_take s_nil))))))))))⟩
          · rintro sh G ⟨c4, z5, rfl, rfl, hm⟩
            subst hF1
            refine c_seq ?_
            refine c_seq ?_
            refine c_region ?_
            refine o_T (y_move rfl) rfl ?_
            refine o_T (y_slen Tryz.underlying9 rfl) rfl ?_
            refine o_T (y_gtr rfl rfl) rfl ?_
            refine o_nil1 64 rfl rfl ?_
            refine c_cond rfl (fun h7 => ?_) (fun h7 => ?_)
            · have hm := cd_t h7 hm
              refine c_seq ?_
              refine c_region ?_
              refine o_L (y_assign rfl) rfl rfl ?_
              refine o_L (y_assign rfl) rfl rfl ?_
              refine o_nil0 rfl ?_
              refine c_ret ?_
              obtain ⟨rfl, rfl, rfl, rfl, rfl, rfl⟩ := pr6 hm
              refine fun aX wX heX hsX => ret2 Tryz.results129 heX rfl rfl (s_skip (s_take (s_take (s_take (s_take (s_take (s_take (s_take (s_take (s_take s_nil)))))))))) ?_
              exact ⟨v1, _, v2, _, v3, _, v4, _, rfl, rfl, ho1, ho2, ho3, ho4⟩
            · have hm := cd_f h7 hm
              refine c_skip ?_
              refine c_seq ?_
              refine c_seq ?_
              refine c_region ?_
              refine o_T (y_move rfl) rfl ?_
              refine o_T (y_nilck rfl) rfl ?_
              refine o_T (y_fa fl_179_3 rfl) rfl ?_
              refine o_ld one_3 rfl (ms m0) (At.got (At.refl.comp Graph.a_n)) rfl ?_
              refine o_T (y_geq rfl rfl) rfl ?_
              refine o_nil1 69 rfl rfl ?_
              refine c_cond rfl (fun h8 => ?_) (fun h8 => ?_)
              · have hm := cd_t h8 hm
                refine c_seq ?_
                refine c_region ?_
                refine o_L (y_assign rfl) rfl rfl ?_
                refine o_L (y_assign rfl) rfl rfl ?_
                refine o_nil0 rfl ?_
                refine c_ret ?_
                obtain ⟨rfl, rfl, rfl, rfl, rfl, rfl⟩ := pr6 hm
                refine fun aX wX heX hsX => ret2 Tryz.results129 heX rfl rfl (s_skip (s_take (s_take (s_take (s_take (s_take (s_take (s_take (s_take (s_take s_nil)))))))))) ?_
                exact ⟨v1, _, v2, _, v3, _, v4, _, rfl, rfl, ho1, ho2, ho3, ho4⟩
              · have hm := cd_f h8 hm
                refine c_skip ?_
                refine c_seq ?_
                refine c_region ?_
                refine o_T (y_move rfl) rfl ?_
                refine o_T (y_move rfl) rfl ?_
                obtain ⟨c6, c7, z8, z9, z10, hx7, hm⟩ := bd5 hm
                refine o_callC en_212 rfl (s_skip (s_take (s_take (s_take (s_take (s_take (s_take (s_take (s_take s_nil))))))))) (t212 ho1 ho2 ho3 ho4 (hr1.mono (fun _ hz => (ms (mg hz)))) hx7) rfl (fun u3 S3 hR3 => ?_)
                obtain ⟨v7, g5, v8, g6, v9, g7, v10, g8, rfl, rfl, ho5, ho6, ho7, ho8⟩ := hR3
                refine o_rest ?_
                refine o_T (y_move rfl) rfl ?_
                refine o_T (y_extract rfl rfl) rfl ?_
                refine o_T (y_extract rfl rfl) rfl ?_
                refine o_L (y_assign rfl) rfl rfl ?_
                refine o_L (y_assign rfl) rfl rfl ?_
                refine o_nil0 rfl ?_
                refine c_seq ?_
                refine c_seq ?_
                refine c_region ?_
                refine o_T (y_move rfl) rfl ?_
                refine o_T (y_neq rfl rfl) rfl ?_
                refine o_nil1 77 rfl rfl ?_
                refine c_cond rfl (fun h9 => ?_) (fun h9 => ?_)
                · have hm := cd_t h9 hm
                  refine c_seq ?_
                  refine c_region ?_
                  refine o_T (y_move rfl) rfl ?_
                  refine o_L (y_assign rfl) rfl rfl ?_
                  refine o_L (y_assign rfl) rfl rfl ?_
                  refine o_nil0 rfl ?_
                  refine c_ret ?_
                  obtain ⟨rfl, rfl, rfl, rfl, rfl, rfl⟩ := pr6 hm
                  refine fun aX wX heX hsX => ret2 Tryz.results129 heX rfl rfl (s_take (s_take (s_take (s_take (s_take (s_take (s_take (s_take (s_skip (s_take s_nil)))))))))) ?_
                  exact ⟨v7, _, v8, _, v9, _, v10, _, rfl, rfl, ho5, ho6, ho7, ho8⟩
                · have hm := cd_f h9 hm
                  refine c_skip ?_
                  refine c_seq ?_
                  refine c_region ?_
                  refine o_T (y_move rfl) rfl ?_
                  refine o_T (y_fa fl_172_2 rfl) rfl ?_
                  obtain ⟨z11, hn3, hm⟩ := nm_s hm
                  refine o_stN one_3 rfl rfl rfl (Upd.z Com.u_tree) (rs (rs (rs (rs (rs (rs (rs (rs r0)))))))) (show (Com.enc z11) = _ from by subst hn3; rfl) ?_
                  refine o_nil0 rfl ?_
                  refine c_seq ?_
                  refine c_region ?_
                  refine o_lda ag_172 rfl (ms (ms (ms (ms (ms (ms (ms (ms m0)))))))) (At.exs At.refl (Com.len _)) (At.fits At.refl (Com.len _)) rfl ?_
                  refine o_T (y_move rfl) rfl ?_
                  obtain ⟨l1, hx8, hm⟩ := bd1 hm
                  refine o_callC en_213 rfl s_nil (t213 hx8) rfl (fun u4 S4 hR4 => ?_)
                  obtain ⟨v11, g9, rfl, rfl, ho9⟩ := hR4
                  refine o_rest ?_
                  refine o_L (y_assign rfl) rfl rfl ?_
                  refine o_nil0 rfl ?_
                  refine c_seq ?_
                  refine c_region ?_
                  refine o_T (y_move rfl) rfl ?_
                  refine o_T (y_nilck rfl) rfl ?_
                  refine o_T (y_fa fl_179_0 rfl) rfl ?_
                  refine o_ld one_29 rfl (ms m0) (At.got (At.refl.comp Graph.a_t)) rfl ?_
                  refine o_T (y_move rfl) rfl ?_
                  obtain ⟨c8, c9, z12, z13, z14, hx9, hm⟩ := bd5 hm
                  refine o_callC en_214 rfl (s_skip (s_skip (s_take (s_take (s_take (s_take (s_take (s_take (s_take s_nil))))))))) (t214 ho5 ho6 ho7 ho8 (ho9.rd.mono (fun _ hz => (mg hz))) hx9) rfl (fun u5 S5 hR5 => ?_)
                  obtain ⟨v12, g10, v13, g11, v14, g12, v15, g13, rfl, rfl, ho10, ho11, ho12, ho13⟩ := hR5
                  refine o_rest ?_
                  refine o_T (y_move rfl) rfl ?_
                  refine o_T (y_extract rfl rfl) rfl ?_
                  refine o_T (y_extract rfl rfl) rfl ?_
                  refine o_L (y_assign rfl) rfl rfl ?_
                  refine o_L (y_assign rfl) rfl rfl ?_
                  refine o_nil0 rfl ?_
                  refine c_seq ?_
                  refine c_seq ?_
                  refine c_region ?_
                  refine o_T (y_move rfl) rfl ?_
                  refine o_T (y_neq rfl rfl) rfl ?_
                  refine o_nil1 94 rfl rfl ?_
                  refine c_cond rfl (fun h10 => ?_) (fun h10 => ?_)
                  · have hm := cd_t h10 hm
                    refine c_seq ?_
                    refine c_region ?_
                    refine o_T (y_move rfl) rfl ?_
                    refine o_L (y_assign rfl) rfl rfl ?_
                    refine o_L (y_assign rfl) rfl rfl ?_
                    refine o_nil0 rfl ?_
                    refine c_ret ?_
                    obtain ⟨rfl, rfl, rfl, rfl, rfl, rfl⟩ := pr6 hm
                    refine fun aX wX heX hsX => ret2 Tryz.results129 heX rfl rfl (s_get (ks (ks (ks (ks (ks (ks (ks (ks k0)))))))) (s_take (s_take (s_take (s_take (s_take (s_take (s_take (s_skip (s_skip (s_take s_nil))))))))))) ?_
                    exact ⟨v12, _, v13, _, v14, _, v15, _, rfl, rfl, ho10, ho11, ho12, ho13⟩
                  · have hm := cd_f h10 hm
                    refine c_skip ?_
                    refine c_seq ?_
                    refine c_draw #[true, true, true, true, true, true, false] rfl (n := 7) rfl ?_
                    refine d_T 0 rfl sb_129_28_0 rfl (y_move rfl) rfl ?_
                    refine d_T 1 rfl sb_129_28_1 rfl (y_move rfl) rfl ?_
                    refine d_lda 2 rfl sb_129_28_2 ag_172 rfl (fun x hx => hx) (ms (ms (ms (ms (ms (ms (ms (ms (ms m0))))))))) (At.exs At.refl (Com.len _)) (At.fits At.refl (Com.len _)) rfl ?_
                    refine d_T 3 rfl sb_129_28_3 rfl (y_nilck rfl) rfl ?_
                    refine d_T 4 rfl sb_129_28_4 rfl (y_fa fl_179_1 rfl) rfl ?_
                    obtain ⟨_, hx10, hm⟩ := bd hm
                    have hx10 := ckA_some hx10
                    refine d_T 5 rfl sb_129_28_5 rfl (y_ia ar_173 rfl rfl hx10.1 hx10.2) rfl ?_
                    refine d_hard 6 rfl sb_129_28_6 ?_
                    obtain ⟨z15, hn4, hm⟩ := nm_s hm
                    refine o_stNA ag_172 rfl rfl (Com.plain _) (Com.len _) ((Upd.z Graph.u_com).comp (encN_u Com.len _ _ _ hx10.1 _ hx10.2)) (rs (rs (rs (rs (rs (rs (rs (rs r0)))))))) (show (Graph.enc (.pointer (some ⟨b2, 0, none⟩)) z15) = _ from by subst hn4; rfl) ?_
                    refine o_stop (fun h => nomatch h) ?_
                    refine d_nil0 sb_129_28_7 rfl ?_
                    refine c_seq ?_
                    refine c_region ?_
                    refine o_T (y_move rfl) rfl ?_
                    refine o_T (y_move rfl) rfl ?_
                    obtain ⟨z16, hx11, hm⟩ := bd1 hm
                    refine o_callC en_215 rfl (s_skip (s_skip (s_skip (s_skip (s_skip (s_skip (s_skip (s_skip (s_take s_nil))))))))) (t215 hx11) rfl (fun u6 S6 hR6 => ?_)
                    obtain ⟨rfl, rfl⟩ := hR6
                    refine o_rest ?_
                    refine o_nil0 rfl ?_
                    refine c_seq ?_
                    refine c_region ?_
                    refine o_T (y_move rfl) rfl ?_
                    refine o_T (y_move rfl) rfl ?_
                    refine o_T (y_nilck rfl) rfl ?_
                    refine o_T (y_fa fl_179_10 rfl) rfl ?_
                    refine o_ld one_3 rfl m0 (At.got (At.refl.comp Graph.a_nxt)) rfl ?_
                    refine o_T (y_add rfl rfl rfl) rfl ?_
                    refine o_T (y_nilck rfl) rfl ?_
                    refine o_T (y_fa fl_179_10 rfl) rfl ?_
                    obtain ⟨z17, hn5, hm⟩ := nm_s hm
                    refine o_stN one_3 rfl rfl rfl (Upd.z Graph.u_nxt) r0 (show (Graph.enc (.pointer (some ⟨b2, 0, none⟩)) z17) = _ from by subst hn5; rfl) ?_
                    refine o_nil0 rfl ?_
                    refine c_seq ?_
                    refine c_region ?_
                    refine o_T (y_fa fl_172_1 rfl) rfl ?_
                    refine o_ld one_3 rfl (ms (ms (ms (ms (ms (ms (ms (ms (ms m0))))))))) (At.got (At.refl.comp Com.a_seq)) rfl ?_
                    refine o_L (y_assign rfl) rfl rfl ?_
                    refine o_L (y_assign rfl) rfl rfl ?_
                    refine o_nil0 rfl ?_
                    refine c_ret ?_
                    obtain ⟨rfl, rfl, rfl, rfl, rfl, rfl⟩ := pr6 hm
                    refine fun aX wX heX hsX => ret2 Tryz.results129 heX rfl rfl (s_take (s_take (s_take (s_take (s_take (s_take (s_take (s_take (s_skip (s_skip (s_take s_nil))))))))))) ?_
                    exact ⟨v12, _, v13, _, v14, _, v15, _, rfl, rfl, ho10, ho11, ho12, ho13⟩
end Go.Proofs.Qxb6500350aGreat
