/- MADE BY PROGRAM (tools350/mir.py): mirror and walk. -/
import Derived.Test.Qxb6500350aGreatF2
import Derived.Test.Qxb6500350aGreatT136
import Derived.Test.Qxb6500350aGreatT218
set_option linter.unusedVariables false
set_option linter.unusedSimpArgs false
set_option maxRecDepth 20000
set_option maxHeartbeats 4000000
namespace Go.Proofs.Qxb6500350aGreat
open Go.Eng

def op_142_9 : Array Go.Oper := #[{ dst := some 29, op := Go.Op.move (Go.Operand.tmp 0), type := 30, pos := "refs.go:51", after := #[], guard := none }, { dst := some 30, op := Go.Op.move (Go.Operand.tmp 7), type := 3, pos := "refs.go:51", after := #[], guard := none }, { dst := some 31, op := Go.Op.move (Go.Operand.tmp 0), type := 30, pos := "refs.go:51", after := #[], guard := none }, { dst := some 32, op := Go.Op.move (Go.Operand.tmp 7), type := 3, pos := "refs.go:51", after := #[], guard := none }, { dst := some 33, op := Go.Op.binOp Go.BinOp.add 3 (Go.Operand.tmp 32) (Go.Operand.const (Go.Value.int Go.IntKind.i64 1)) 3, type := 3, pos := "refs.go:51", after := #[{ on := 3, ground := Go.Ground.data }], guard := none }, { dst := some 34, op := Go.Op.nilCheck (Go.Operand.tmp 31), type := 0, pos := "refs.go:51", after := #[{ on := 2, ground := Go.Ground.data }], guard := none }, { dst := some 35, op := Go.Op.fieldAddr 179 (Go.Operand.tmp 34) 4, type := 0, pos := "refs.go:51", after := #[{ on := 5, ground := Go.Ground.data }], guard := none }, { dst := some 36, op := Go.Op.indexAddr 177 (Go.Operand.tmp 35) (Go.Operand.tmp 33), type := 0, pos := "refs.go:51", after := #[{ on := 6, ground := Go.Ground.data }, { on := 4, ground := Go.Ground.data }], guard := none }, { dst := some 37, op := Go.Op.load 176 (Go.Operand.tmp 36), type := 176, pos := "refs.go:51", after := #[{ on := 7, ground := Go.Ground.data }], guard := none }, { dst := some 38, op := Go.Op.nilCheck (Go.Operand.tmp 29), type := 0, pos := "refs.go:51", after := #[{ on := 0, ground := Go.Ground.data }], guard := none }, { dst := some 39, op := Go.Op.fieldAddr 179 (Go.Operand.tmp 38) 4, type := 0, pos := "refs.go:51", after := #[{ on := 9, ground := Go.Ground.data }], guard := none }, { dst := some 40, op := Go.Op.indexAddr 177 (Go.Operand.tmp 39) (Go.Operand.tmp 30), type := 0, pos := "refs.go:51", after := #[{ on := 10, ground := Go.Ground.data }, { on := 1, ground := Go.Ground.data }, { on := 0, ground := Go.Ground.phase }, { on := 1, ground := Go.Ground.phase }, { on := 2, ground := Go.Ground.phase }, { on := 3, ground := Go.Ground.phase }, { on := 4, ground := Go.Ground.phase }, { on := 5, ground := Go.Ground.phase }, { on := 6, ground := Go.Ground.phase }, { on := 7, ground := Go.Ground.phase }, { on := 8, ground := Go.Ground.phase }], guard := none }, { dst := none, op := Go.Op.store 176 (Go.Operand.tmp 40) (Go.Operand.tmp 37), type := 0, pos := "refs.go:51", after := #[{ on := 11, ground := Go.Ground.data }, { on := 8, ground := Go.Ground.data }, { on := 0, ground := Go.Ground.phase }, { on := 1, ground := Go.Ground.phase }, { on := 2, ground := Go.Ground.phase }, { on := 3, ground := Go.Ground.phase }, { on := 4, ground := Go.Ground.phase }, { on := 5, ground := Go.Ground.phase }, { on := 6, ground := Go.Ground.phase }, { on := 7, ground := Go.Ground.phase }, { on := 8, ground := Go.Ground.phase }], guard := none }]
def op_142_11 : Array Go.Oper := #[{ dst := some 48, op := Go.Op.move (Go.Operand.tmp 0), type := 30, pos := "refs.go:54", after := #[], guard := none }, { dst := some 49, op := Go.Op.move (Go.Operand.tmp 0), type := 30, pos := "refs.go:54", after := #[], guard := none }, { dst := some 50, op := Go.Op.nilCheck (Go.Operand.tmp 49), type := 0, pos := "refs.go:54", after := #[{ on := 1, ground := Go.Ground.data }], guard := none }, { dst := some 51, op := Go.Op.fieldAddr 179 (Go.Operand.tmp 50) 5, type := 0, pos := "refs.go:54", after := #[{ on := 2, ground := Go.Ground.data }], guard := none }, { dst := some 52, op := Go.Op.load 3 (Go.Operand.tmp 51), type := 3, pos := "refs.go:54", after := #[{ on := 3, ground := Go.Ground.data }], guard := none }, { dst := some 53, op := Go.Op.build 176 #[], type := 176, pos := "refs.go:54", after := #[], guard := none }, { dst := some 54, op := Go.Op.nilCheck (Go.Operand.tmp 48), type := 0, pos := "refs.go:54", after := #[{ on := 0, ground := Go.Ground.data }], guard := none }, { dst := some 55, op := Go.Op.fieldAddr 179 (Go.Operand.tmp 54) 4, type := 0, pos := "refs.go:54", after := #[{ on := 6, ground := Go.Ground.data }], guard := none }, { dst := some 56, op := Go.Op.indexAddr 177 (Go.Operand.tmp 55) (Go.Operand.tmp 52), type := 0, pos := "refs.go:54", after := #[{ on := 7, ground := Go.Ground.data }, { on := 4, ground := Go.Ground.data }, { on := 0, ground := Go.Ground.phase }, { on := 1, ground := Go.Ground.phase }, { on := 2, ground := Go.Ground.phase }, { on := 3, ground := Go.Ground.phase }, { on := 4, ground := Go.Ground.phase }, { on := 5, ground := Go.Ground.phase }], guard := none }, { dst := none, op := Go.Op.store 176 (Go.Operand.tmp 56) (Go.Operand.tmp 53), type := 0, pos := "refs.go:54", after := #[{ on := 8, ground := Go.Ground.data }, { on := 5, ground := Go.Ground.data }, { on := 0, ground := Go.Ground.phase }, { on := 1, ground := Go.Ground.phase }, { on := 2, ground := Go.Ground.phase }, { on := 3, ground := Go.Ground.phase }, { on := 4, ground := Go.Ground.phase }, { on := 5, ground := Go.Ground.phase }], guard := none }]
theorem sb_142_9_0 : softB op_142_9 #[true, true, true, true, true, true, true, true, true, true, true, true, false] (Array.replicate 13 false) 0 = true := by kernel_rfl
theorem sb_142_9_1 : softB op_142_9 #[true, true, true, true, true, true, true, true, true, true, true, true, false] ((Array.replicate 13 false).setIfInBounds 0 true) 1 = true := by kernel_rfl
theorem sb_142_9_2 : softB op_142_9 #[true, true, true, true, true, true, true, true, true, true, true, true, false] (((Array.replicate 13 false).setIfInBounds 0 true).setIfInBounds 1 true) 2 = true := by kernel_rfl
theorem sb_142_9_3 : softB op_142_9 #[true, true, true, true, true, true, true, true, true, true, true, true, false] ((((Array.replicate 13 false).setIfInBounds 0 true).setIfInBounds 1 true).setIfInBounds 2 true) 3 = true := by kernel_rfl
theorem sb_142_9_4 : softB op_142_9 #[true, true, true, true, true, true, true, true, true, true, true, true, false] (((((Array.replicate 13 false).setIfInBounds 0 true).setIfInBounds 1 true).setIfInBounds 2 true).setIfInBounds 3 true) 4 = true := by kernel_rfl
theorem sb_142_9_5 : softB op_142_9 #[true, true, true, true, true, true, true, true, true, true, true, true, false] ((((((Array.replicate 13 false).setIfInBounds 0 true).setIfInBounds 1 true).setIfInBounds 2 true).setIfInBounds 3 true).setIfInBounds 4 true) 5 = true := by kernel_rfl
theorem sb_142_9_6 : softB op_142_9 #[true, true, true, true, true, true, true, true, true, true, true, true, false] (((((((Array.replicate 13 false).setIfInBounds 0 true).setIfInBounds 1 true).setIfInBounds 2 true).setIfInBounds 3 true).setIfInBounds 4 true).setIfInBounds 5 true) 6 = true := by kernel_rfl
theorem sb_142_9_7 : softB op_142_9 #[true, true, true, true, true, true, true, true, true, true, true, true, false] ((((((((Array.replicate 13 false).setIfInBounds 0 true).setIfInBounds 1 true).setIfInBounds 2 true).setIfInBounds 3 true).setIfInBounds 4 true).setIfInBounds 5 true).setIfInBounds 6 true) 7 = true := by kernel_rfl
theorem sb_142_9_8 : softB op_142_9 #[true, true, true, true, true, true, true, true, true, true, true, true, false] (((((((((Array.replicate 13 false).setIfInBounds 0 true).setIfInBounds 1 true).setIfInBounds 2 true).setIfInBounds 3 true).setIfInBounds 4 true).setIfInBounds 5 true).setIfInBounds 6 true).setIfInBounds 7 true) 8 = true := by kernel_rfl
theorem sb_142_9_9 : softB op_142_9 #[true, true, true, true, true, true, true, true, true, true, true, true, false] ((((((((((Array.replicate 13 false).setIfInBounds 0 true).setIfInBounds 1 true).setIfInBounds 2 true).setIfInBounds 3 true).setIfInBounds 4 true).setIfInBounds 5 true).setIfInBounds 6 true).setIfInBounds 7 true).setIfInBounds 8 true) 9 = true := by kernel_rfl
theorem sb_142_9_10 : softB op_142_9 #[true, true, true, true, true, true, true, true, true, true, true, true, false] (((((((((((Array.replicate 13 false).setIfInBounds 0 true).setIfInBounds 1 true).setIfInBounds 2 true).setIfInBounds 3 true).setIfInBounds 4 true).setIfInBounds 5 true).setIfInBounds 6 true).setIfInBounds 7 true).setIfInBounds 8 true).setIfInBounds 9 true) 10 = true := by kernel_rfl
theorem sb_142_9_11 : softB op_142_9 #[true, true, true, true, true, true, true, true, true, true, true, true, false] ((((((((((((Array.replicate 13 false).setIfInBounds 0 true).setIfInBounds 1 true).setIfInBounds 2 true).setIfInBounds 3 true).setIfInBounds 4 true).setIfInBounds 5 true).setIfInBounds 6 true).setIfInBounds 7 true).setIfInBounds 8 true).setIfInBounds 9 true).setIfInBounds 10 true) 11 = true := by kernel_rfl
theorem sb_142_9_12 : hardB op_142_9 (((((((((((((Array.replicate 13 false).setIfInBounds 0 true).setIfInBounds 1 true).setIfInBounds 2 true).setIfInBounds 3 true).setIfInBounds 4 true).setIfInBounds 5 true).setIfInBounds 6 true).setIfInBounds 7 true).setIfInBounds 8 true).setIfInBounds 9 true).setIfInBounds 10 true).setIfInBounds 11 true) [12] = true := by kernel_rfl
theorem sb_142_9_13 : hardB op_142_9 ((((((((((((((Array.replicate 13 false).setIfInBounds 0 true).setIfInBounds 1 true).setIfInBounds 2 true).setIfInBounds 3 true).setIfInBounds 4 true).setIfInBounds 5 true).setIfInBounds 6 true).setIfInBounds 7 true).setIfInBounds 8 true).setIfInBounds 9 true).setIfInBounds 10 true).setIfInBounds 11 true).setIfInBounds 12 true) [] = true := by kernel_rfl
theorem sb_142_11_0 : softB op_142_11 #[true, true, true, true, true, true, true, true, true, false] (Array.replicate 10 false) 0 = true := by kernel_rfl
theorem sb_142_11_1 : softB op_142_11 #[true, true, true, true, true, true, true, true, true, false] ((Array.replicate 10 false).setIfInBounds 0 true) 1 = true := by kernel_rfl
theorem sb_142_11_2 : softB op_142_11 #[true, true, true, true, true, true, true, true, true, false] (((Array.replicate 10 false).setIfInBounds 0 true).setIfInBounds 1 true) 2 = true := by kernel_rfl
theorem sb_142_11_3 : softB op_142_11 #[true, true, true, true, true, true, true, true, true, false] ((((Array.replicate 10 false).setIfInBounds 0 true).setIfInBounds 1 true).setIfInBounds 2 true) 3 = true := by kernel_rfl
theorem sb_142_11_4 : softB op_142_11 #[true, true, true, true, true, true, true, true, true, false] (((((Array.replicate 10 false).setIfInBounds 0 true).setIfInBounds 1 true).setIfInBounds 2 true).setIfInBounds 3 true) 4 = true := by kernel_rfl
theorem sb_142_11_5 : softB op_142_11 #[true, true, true, true, true, true, true, true, true, false] ((((((Array.replicate 10 false).setIfInBounds 0 true).setIfInBounds 1 true).setIfInBounds 2 true).setIfInBounds 3 true).setIfInBounds 4 true) 5 = true := by kernel_rfl
theorem sb_142_11_6 : softB op_142_11 #[true, true, true, true, true, true, true, true, true, false] (((((((Array.replicate 10 false).setIfInBounds 0 true).setIfInBounds 1 true).setIfInBounds 2 true).setIfInBounds 3 true).setIfInBounds 4 true).setIfInBounds 5 true) 6 = true := by kernel_rfl
theorem sb_142_11_7 : softB op_142_11 #[true, true, true, true, true, true, true, true, true, false] ((((((((Array.replicate 10 false).setIfInBounds 0 true).setIfInBounds 1 true).setIfInBounds 2 true).setIfInBounds 3 true).setIfInBounds 4 true).setIfInBounds 5 true).setIfInBounds 6 true) 7 = true := by kernel_rfl
theorem sb_142_11_8 : softB op_142_11 #[true, true, true, true, true, true, true, true, true, false] (((((((((Array.replicate 10 false).setIfInBounds 0 true).setIfInBounds 1 true).setIfInBounds 2 true).setIfInBounds 3 true).setIfInBounds 4 true).setIfInBounds 5 true).setIfInBounds 6 true).setIfInBounds 7 true) 8 = true := by kernel_rfl
theorem sb_142_11_9 : hardB op_142_11 ((((((((((Array.replicate 10 false).setIfInBounds 0 true).setIfInBounds 1 true).setIfInBounds 2 true).setIfInBounds 3 true).setIfInBounds 4 true).setIfInBounds 5 true).setIfInBounds 6 true).setIfInBounds 7 true).setIfInBounds 8 true) [9] = true := by kernel_rfl
theorem sb_142_11_10 : hardB op_142_11 (((((((((((Array.replicate 10 false).setIfInBounds 0 true).setIfInBounds 1 true).setIfInBounds 2 true).setIfInBounds 3 true).setIfInBounds 4 true).setIfInBounds 5 true).setIfInBounds 6 true).setIfInBounds 7 true).setIfInBounds 8 true).setIfInBounds 9 true) [] = true := by kernel_rfl
/- (*graph.Graph).DelBranch -/
def m142_w1 (n : Nat) (mm : Nat) : Int → Graph → Option (Int × Graph) := it2 (fun lp1 c4 z1 =>
cond (decide ((wi (c4 + 1)) < z1.nb)) (
Option.bind (ckA (wi (c4 + 1)) 4) fun _ =>
Option.bind (ckA c4 4) fun _ =>
nm ({ z1 with br := (upI z1.br c4 (z1.br (wi (c4 + 1)))) } : Graph) fun z3 =>
lp1 (wi (c4 + 1)) z3) (
some (c4, z1))) mm
def m142 (n : Nat) (g : Graph) (name : Str) : Option (Int × Graph) :=
ob1 (m136 n name) fun c1 =>
cond (!c1) (
some (14, g)) (
ob2 (m218 n g name) fun c2 c3 =>
cond (!c3) (
some (16, g)) (
ob2 (m142_w1 n n c2 g) fun c5 z2 =>
nm ({ z2 with nb := (wi (z2.nb - 1)) } : Graph) fun z4 =>
Option.bind (ckA z4.nb 4) fun _ =>
nm ({ z4 with br := (upI z4.br z4.nb Brn.zero) } : Graph) fun z5 =>
some (0, z5)))
theorem t142 {n : Nat} {C : List Chunk} {rc1 : Int} {rz1 : Graph} {b1 : Nat} {g : Graph} {q1 : Option Addr} {name : Str}   (hm : m142 n g name = some (rc1, rz1)) : Trip Tryz.prog 142 #[.pointer (some ⟨b1, 0, none⟩), .string ⟨(name : Str).toArray⟩] ([[(b1, .cells (Graph.enc ((.pointer q1)) g).toArray 179 (0, 0))]] ++ [C]) (fun u S' => .int .i64 rc1 = u ∧ S' = [[(b1, .cells (Graph.enc ((.pointer q1)) rz1).toArray 179 (0, 0))]] ++ [C]) := by
  refine fn_entry (args := [.pointer (some ⟨b1, 0, none⟩), .string ⟨(name : Str).toArray⟩]) Tryz.func142 rfl Tryz.ntmps142 rfl (fun w0 => ?_)
  refine c_seq ?_
  refine c_region ?_
  refine o_L (y_assign rfl) rfl rfl ?_
  refine o_nil0 rfl ?_
  refine c_seq ?_
  refine c_seq ?_
  refine c_region ?_
  refine o_T (y_move rfl) rfl ?_
  obtain ⟨c1, hx1, hm⟩ := bd1 hm
  refine o_callC en_136 rfl s_nil (t136 hx1) rfl (fun u1 S1 hR1 => ?_)
  obtain ⟨rfl, rfl⟩ := hR1
  refine o_rest ?_
  refine o_T (y_not rfl) rfl ?_
  refine o_nil1 10 rfl rfl ?_
  refine c_cond rfl (fun h1 => ?_) (fun h1 => ?_)
  · have hm := cd_t h1 hm
    refine c_seq ?_
    refine c_region ?_
    refine o_L (y_assign rfl) rfl rfl ?_
    refine o_nil0 rfl ?_
    refine c_ret ?_
    obtain ⟨rfl, rfl⟩ := pr2 hm
    refine fun aX wX heX hsX => ret1 Tryz.results142 heX rfl (s_take (s_take s_nil)) ?_
    exact ⟨rfl, rfl⟩
  · have hm := cd_f h1 hm
    refine c_skip ?_
    refine c_seq ?_
    refine c_region ?_
    refine o_T (y_move rfl) rfl ?_
    refine o_T (y_move rfl) rfl ?_
    obtain ⟨c2, c3, hx2, hm⟩ := bd2 hm
    refine o_callC en_218 rfl (s_take s_nil) (t218 hx2) rfl (fun u2 S2 hR2 => ?_)
    obtain ⟨rfl, rfl⟩ := hR2
    refine o_rest ?_
    refine o_T (y_move rfl) rfl ?_
    refine o_T (y_extract rfl rfl) rfl ?_
    refine o_T (y_extract rfl rfl) rfl ?_
    refine o_L (y_assign rfl) rfl rfl ?_
    refine o_L (y_assign rfl) rfl rfl ?_
    refine o_nil0 rfl ?_
    refine c_seq ?_
    refine c_seq ?_
    refine c_region ?_
    refine o_T (y_move rfl) rfl ?_
    refine o_T (y_not rfl) rfl ?_
    refine o_nil1 18 rfl rfl ?_
    refine c_cond rfl (fun h2 => ?_) (fun h2 => ?_)
    · have hm := cd_t h2 hm
      refine c_seq ?_
      refine c_region ?_
      refine o_L (y_assign rfl) rfl rfl ?_
      refine o_nil0 rfl ?_
      refine c_ret ?_
      obtain ⟨rfl, rfl⟩ := pr2 hm
      refine fun aX wX heX hsX => ret1 Tryz.results142 heX rfl (s_take (s_take s_nil)) ?_
      exact ⟨rfl, rfl⟩
    · have hm := cd_f h2 hm
      refine c_skip ?_
      refine c_seq ?_
      refine c_seq ?_
      refine c_region ?_
      refine o_T (y_move rfl) rfl ?_
      refine o_L (y_assign rfl) rfl rfl ?_
      refine o_nil0 rfl ?_
      obtain ⟨c5, z2, hj1, hm⟩ := bd2 hm
      refine c_joinP (n := 1) (fun sh G => sh = [(7, .int .i64 c5)] ∧ G = [[(b1, .cells (Graph.enc ((.pointer q1)) z2).toArray 179 (0, 0))]]) (s_take (s_take s_nil)) (.s .z) (fun _ _ h => h) ?_ ?_
      · skip
        refine c_block ?_
        refine c_loopP (n := 1) (fun mm sh G => ∃ (c4 : Int), ∃ (z1 : Graph), sh = [(7, .int .i64 c4)] ∧ G = [[(b1, .cells (Graph.enc ((.pointer q1)) z1).toArray 179 (0, 0))]] ∧ m142_w1 n mm c4 z1 = some (c5, z2)) n (s_take (s_take s_nil)) (.s .z) ⟨_, _, ⟨_, _, rfl, rfl, hj1⟩, ⟨rfl, trivial⟩, _, (s_take (s_take s_nil))⟩ ?_
        rintro mm sh G ⟨c4, z1, rfl, rfl, hm⟩
        obtain ⟨mm1, rfl, hm⟩ := it2_s hm
        refine c_seq ?_
        refine c_seq ?_
        refine c_region ?_
        refine o_T (y_move rfl) rfl ?_
        refine o_T (y_add rfl rfl rfl) rfl ?_
        refine o_T (y_move rfl) rfl ?_
        refine o_T (y_nilck rfl) rfl ?_
        refine o_T (y_fa fl_179_5 rfl) rfl ?_
        refine o_ld one_3 rfl m0 (At.got (At.refl.comp Graph.a_nb)) rfl ?_
        refine o_T (y_lss rfl rfl) rfl ?_
        refine o_nil1 26 rfl rfl ?_
        refine c_cond rfl (fun h3 => ?_) (fun h3 => ?_)
        · have hm := cd_t h3 hm
          refine c_skip ?_
          refine c_seq ?_
          refine c_block ?_
          refine c_draw #[true, true, true, true, true, true, true, true, true, true, true, true, false] rfl (n := 13) rfl ?_
          refine d_T 0 rfl sb_142_9_0 rfl (y_move rfl) rfl ?_
          refine d_T 1 rfl sb_142_9_1 rfl (y_move rfl) rfl ?_
          refine d_T 2 rfl sb_142_9_2 rfl (y_move rfl) rfl ?_
          refine d_T 3 rfl sb_142_9_3 rfl (y_move rfl) rfl ?_
          refine d_T 4 rfl sb_142_9_4 rfl (y_add rfl rfl rfl) rfl ?_
          refine d_T 5 rfl sb_142_9_5 rfl (y_nilck rfl) rfl ?_
          refine d_T 6 rfl sb_142_9_6 rfl (y_fa fl_179_4 rfl) rfl ?_
          obtain ⟨_, hx3, hm⟩ := bd hm
          have hx3 := ckA_some hx3
          refine d_T 7 rfl sb_142_9_7 rfl (y_ia ar_177 rfl rfl hx3.1 hx3.2) rfl ?_
          refine d_lda 8 rfl sb_142_9_8 ag_176 rfl (fun x hx => hx) m0 (At.exs ((At.refl.comp Graph.a_br).comp (encN_a Brn.len _ _ hx3.1 _ hx3.2)) (Brn.len _)) (At.fits ((At.refl.comp Graph.a_br).comp (encN_a Brn.len _ _ hx3.1 _ hx3.2)) (Brn.len _)) rfl ?_
          refine d_T 9 rfl sb_142_9_9 rfl (y_nilck rfl) rfl ?_
          refine d_T 10 rfl sb_142_9_10 rfl (y_fa fl_179_4 rfl) rfl ?_
          obtain ⟨_, hx4, hm⟩ := bd hm
          have hx4 := ckA_some hx4
          refine d_T 11 rfl sb_142_9_11 rfl (y_ia ar_177 rfl rfl hx4.1 hx4.2) rfl ?_
          refine d_hard 12 rfl sb_142_9_12 ?_
          obtain ⟨z3, hn1, hm⟩ := nm_s hm
          refine o_stNA ag_176 rfl rfl (Brn.plain _) (Brn.len _) ((Upd.z Graph.u_br).comp (encN_u Brn.len _ _ _ hx4.1 _ hx4.2)) r0 (show (Graph.enc ((.pointer q1)) z3) = _ from by subst hn1; rfl) ?_
          refine o_stop (fun h => nomatch h) ?_
          refine d_nil0 sb_142_9_13 rfl ?_
          refine c_region ?_
          refine o_T (y_move rfl) rfl ?_
          refine o_T (y_add rfl rfl rfl) rfl ?_
          refine o_L (y_assign rfl) rfl rfl ?_
          refine o_nil0 rfl ?_
          exact ⟨mm1, Nat.lt_succ_self _, _, _, ⟨_, _, rfl, rfl, hm⟩, ⟨rfl, trivial⟩, ⟨rfl, rfl⟩, _, (s_take (s_take s_nil))⟩
        · have hm := cd_f h3 hm
          refine c_exit ?_
          obtain ⟨rfl, rfl⟩ := pr2 hm
          exact ⟨_, _, ⟨rfl, rfl⟩, ⟨rfl, trivial⟩, ⟨rfl, rfl⟩, _, (s_take (s_take s_nil))⟩
      · rintro sh G ⟨rfl, rfl⟩
        refine c_seq ?_
        refine c_region ?_
        refine o_T (y_move rfl) rfl ?_
        refine o_T (y_nilck rfl) rfl ?_
        refine o_T (y_fa fl_179_5 rfl) rfl ?_
        refine o_ld one_3 rfl m0 (At.got (At.refl.comp Graph.a_nb)) rfl ?_
        refine o_T (y_sub rfl rfl rfl) rfl ?_
        refine o_T (y_nilck rfl) rfl ?_
        refine o_T (y_fa fl_179_5 rfl) rfl ?_
        obtain ⟨z4, hn2, hm⟩ := nm_s hm
        refine o_stN one_3 rfl rfl rfl (Upd.z Graph.u_nb) r0 (show (Graph.enc ((.pointer q1)) z4) = _ from by subst hn2; rfl) ?_
        refine o_nil0 rfl ?_
        refine c_seq ?_
        refine c_draw #[true, true, true, true, true, true, true, true, true, false] rfl (n := 10) rfl ?_
        refine d_T 0 rfl sb_142_11_0 rfl (y_move rfl) rfl ?_
        refine d_T 1 rfl sb_142_11_1 rfl (y_move rfl) rfl ?_
        refine d_T 2 rfl sb_142_11_2 rfl (y_nilck rfl) rfl ?_
        refine d_T 3 rfl sb_142_11_3 rfl (y_fa fl_179_5 rfl) rfl ?_
        refine d_ld 4 rfl sb_142_11_4 one_3 rfl (fun x hx => hx) m0 (At.got (At.refl.comp Graph.a_nb)) rfl ?_
        refine d_T 5 rfl sb_142_11_5 rfl (y_build st_176 rfl fbU0) rfl ?_
        refine d_T 6 rfl sb_142_11_6 rfl (y_nilck rfl) rfl ?_
        refine d_T 7 rfl sb_142_11_7 rfl (y_fa fl_179_4 rfl) rfl ?_
        obtain ⟨_, hx5, hm⟩ := bd hm
        have hx5 := ckA_some hx5
        refine d_T 8 rfl sb_142_11_8 rfl (y_ia ar_177 rfl rfl hx5.1 hx5.2) rfl ?_
        refine d_hard 9 rfl sb_142_11_9 ?_
        obtain ⟨z5, hn3, hm⟩ := nm_s hm
        refine o_stNA ag_176 rfl rfl (Brn.plain _) (Brn.len _) ((Upd.z Graph.u_br).comp (encN_u Brn.len _ _ _ hx5.1 _ hx5.2)) r0 (show (Graph.enc ((.pointer q1)) z5) = _ from by subst hn3; rfl) ?_
        refine o_stop (fun h => nomatch h) ?_
        refine d_nil0 sb_142_11_10 rfl ?_
        refine c_seq ?_
        refine c_region ?_
        refine o_L (y_assign rfl) rfl rfl ?_
        refine o_nil0 rfl ?_
        refine c_ret ?_
        obtain ⟨rfl, rfl⟩ := pr2 hm
        refine fun aX wX heX hsX => ret1 Tryz.results142 heX rfl (s_take (s_take s_nil)) ?_
        exact ⟨rfl, rfl⟩
end Go.Proofs.Qxb6500350aGreat
