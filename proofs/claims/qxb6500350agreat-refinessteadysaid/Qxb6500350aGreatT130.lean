/- MADE BY PROGRAM (tools350/mir.py): mirror and walk. -/
import Derived.Test.Qxb6500350aGreatF2
import Derived.Test.Qxb6500350aGreatT153
import Derived.Test.Qxb6500350aGreatT139
set_option linter.unusedVariables false
set_option linter.unusedSimpArgs false
set_option maxRecDepth 20000
set_option maxHeartbeats 4000000
namespace Go.Proofs.Qxb6500350aGreat
open Go.Eng

def op_130_3 : Array Go.Oper := #[{ dst := some 18, op := Go.Op.move (Go.Operand.tmp 0), type := 33, pos := "repo.go:106", after := #[], guard := none }, { dst := some 19, op := Go.Op.nilCheck (Go.Operand.tmp 18), type := 0, pos := "repo.go:106", after := #[{ on := 0, ground := Go.Ground.data }], guard := none }, { dst := some 20, op := Go.Op.fieldAddr 130 (Go.Operand.tmp 19) 0, type := 0, pos := "repo.go:106", after := #[{ on := 1, ground := Go.Ground.data }], guard := none }, { dst := some 21, op := Go.Op.load 30 (Go.Operand.tmp 20), type := 30, pos := "repo.go:106", after := #[{ on := 2, ground := Go.Ground.data }], guard := none }, { dst := some 22, op := Go.Op.fieldAddr 54 (Go.Operand.tmp 4) 0, type := 0, pos := "repo.go:106", after := #[], guard := none }, { dst := some 23, op := Go.Op.load 9 (Go.Operand.tmp 22), type := 9, pos := "repo.go:106", after := #[{ on := 4, ground := Go.Ground.data }], guard := none }, { dst := some 24, op := Go.Op.move (Go.Operand.tmp 2), type := 3, pos := "repo.go:106", after := #[], guard := none }, { dst := some 25, op := Go.Op.call { callee := Go.Callee.value (Go.Operand.func 139), args := #[Go.Operand.tmp 21, Go.Operand.tmp 23, Go.Operand.tmp 24], argTypes := #[30, 9, 3] }, type := 73, pos := "repo.go:106", after := #[{ on := 3, ground := Go.Ground.data }, { on := 5, ground := Go.Ground.data }, { on := 6, ground := Go.Ground.data }], guard := none }, { dst := some 7, op := Go.Op.assign (Go.Operand.tmp 25), type := 73, pos := "repo.go:106", after := #[{ on := 7, ground := Go.Ground.data }, { on := 7, ground := Go.Ground.chain }, { on := 0, ground := Go.Ground.phase }, { on := 1, ground := Go.Ground.phase }, { on := 2, ground := Go.Ground.phase }, { on := 3, ground := Go.Ground.phase }, { on := 4, ground := Go.Ground.phase }, { on := 5, ground := Go.Ground.phase }, { on := 6, ground := Go.Ground.phase }, { on := 7, ground := Go.Ground.phase }], guard := none }]
def op_130_6 : Array Go.Oper := #[{ dst := some 29, op := Go.Op.move (Go.Operand.tmp 0), type := 33, pos := "repo.go:110", after := #[], guard := none }, { dst := some 30, op := Go.Op.nilCheck (Go.Operand.tmp 29), type := 0, pos := "repo.go:110", after := #[{ on := 0, ground := Go.Ground.data }], guard := none }, { dst := some 31, op := Go.Op.fieldAddr 130 (Go.Operand.tmp 30) 0, type := 0, pos := "repo.go:110", after := #[{ on := 1, ground := Go.Ground.data }], guard := none }, { dst := some 32, op := Go.Op.load 30 (Go.Operand.tmp 31), type := 30, pos := "repo.go:110", after := #[{ on := 2, ground := Go.Ground.data }], guard := none }, { dst := some 33, op := Go.Op.fieldAddr 54 (Go.Operand.tmp 4) 0, type := 0, pos := "repo.go:110", after := #[], guard := none }, { dst := some 34, op := Go.Op.load 9 (Go.Operand.tmp 33), type := 9, pos := "repo.go:110", after := #[{ on := 4, ground := Go.Ground.data }], guard := none }, { dst := some 35, op := Go.Op.build 54 #[(0, Go.Operand.tmp 34)], type := 54, pos := "repo.go:110", after := #[{ on := 5, ground := Go.Ground.data }], guard := none }, { dst := some 36, op := Go.Op.call { callee := Go.Callee.value (Go.Operand.func 153), args := #[Go.Operand.tmp 32, Go.Operand.tmp 35], argTypes := #[30, 54] }, type := 73, pos := "repo.go:110", after := #[{ on := 3, ground := Go.Ground.data }, { on := 6, ground := Go.Ground.data }], guard := none }, { dst := some 6, op := Go.Op.assign (Go.Operand.tmp 36), type := 73, pos := "repo.go:110", after := #[{ on := 7, ground := Go.Ground.data }, { on := 7, ground := Go.Ground.chain }, { on := 0, ground := Go.Ground.phase }, { on := 1, ground := Go.Ground.phase }, { on := 2, ground := Go.Ground.phase }, { on := 3, ground := Go.Ground.phase }, { on := 4, ground := Go.Ground.phase }, { on := 5, ground := Go.Ground.phase }, { on := 6, ground := Go.Ground.phase }, { on := 7, ground := Go.Ground.phase }], guard := none }]
theorem sb_130_3_0 : softB op_130_3 #[true, true, true, true, true, true, true, false, true] (Array.replicate 9 false) 0 = true := by kernel_rfl
theorem sb_130_3_1 : softB op_130_3 #[true, true, true, true, true, true, true, false, true] ((Array.replicate 9 false).setIfInBounds 0 true) 1 = true := by kernel_rfl
theorem sb_130_3_2 : softB op_130_3 #[true, true, true, true, true, true, true, false, true] (((Array.replicate 9 false).setIfInBounds 0 true).setIfInBounds 1 true) 2 = true := by kernel_rfl
theorem sb_130_3_3 : softB op_130_3 #[true, true, true, true, true, true, true, false, true] ((((Array.replicate 9 false).setIfInBounds 0 true).setIfInBounds 1 true).setIfInBounds 2 true) 3 = true := by kernel_rfl
theorem sb_130_3_4 : softB op_130_3 #[true, true, true, true, true, true, true, false, true] (((((Array.replicate 9 false).setIfInBounds 0 true).setIfInBounds 1 true).setIfInBounds 2 true).setIfInBounds 3 true) 4 = true := by kernel_rfl
theorem sb_130_3_5 : softB op_130_3 #[true, true, true, true, true, true, true, false, true] ((((((Array.replicate 9 false).setIfInBounds 0 true).setIfInBounds 1 true).setIfInBounds 2 true).setIfInBounds 3 true).setIfInBounds 4 true) 5 = true := by kernel_rfl
theorem sb_130_3_6 : softB op_130_3 #[true, true, true, true, true, true, true, false, true] (((((((Array.replicate 9 false).setIfInBounds 0 true).setIfInBounds 1 true).setIfInBounds 2 true).setIfInBounds 3 true).setIfInBounds 4 true).setIfInBounds 5 true) 6 = true := by kernel_rfl
theorem sb_130_3_7 : hardB op_130_3 ((((((((Array.replicate 9 false).setIfInBounds 0 true).setIfInBounds 1 true).setIfInBounds 2 true).setIfInBounds 3 true).setIfInBounds 4 true).setIfInBounds 5 true).setIfInBounds 6 true) [7] = true := by kernel_rfl
theorem sb_130_3_8 : softB op_130_3 #[true, true, true, true, true, true, true, false, true] (((((((((Array.replicate 9 false).setIfInBounds 0 true).setIfInBounds 1 true).setIfInBounds 2 true).setIfInBounds 3 true).setIfInBounds 4 true).setIfInBounds 5 true).setIfInBounds 6 true).setIfInBounds 7 true) 8 = true := by kernel_rfl
theorem sb_130_3_9 : hardB op_130_3 ((((((((((Array.replicate 9 false).setIfInBounds 0 true).setIfInBounds 1 true).setIfInBounds 2 true).setIfInBounds 3 true).setIfInBounds 4 true).setIfInBounds 5 true).setIfInBounds 6 true).setIfInBounds 7 true).setIfInBounds 8 true) [] = true := by kernel_rfl
theorem sb_130_6_0 : softB op_130_6 #[true, true, true, true, true, true, true, false, true] (Array.replicate 9 false) 0 = true := by kernel_rfl
theorem sb_130_6_1 : softB op_130_6 #[true, true, true, true, true, true, true, false, true] ((Array.replicate 9 false).setIfInBounds 0 true) 1 = true := by kernel_rfl
theorem sb_130_6_2 : softB op_130_6 #[true, true, true, true, true, true, true, false, true] (((Array.replicate 9 false).setIfInBounds 0 true).setIfInBounds 1 true) 2 = true := by kernel_rfl
theorem sb_130_6_3 : softB op_130_6 #[true, true, true, true, true, true, true, false, true] ((((Array.replicate 9 false).setIfInBounds 0 true).setIfInBounds 1 true).setIfInBounds 2 true) 3 = true := by kernel_rfl
theorem sb_130_6_4 : softB op_130_6 #[true, true, true, true, true, true, true, false, true] (((((Array.replicate 9 false).setIfInBounds 0 true).setIfInBounds 1 true).setIfInBounds 2 true).setIfInBounds 3 true) 4 = true := by kernel_rfl
theorem sb_130_6_5 : softB op_130_6 #[true, true, true, true, true, true, true, false, true] ((((((Array.replicate 9 false).setIfInBounds 0 true).setIfInBounds 1 true).setIfInBounds 2 true).setIfInBounds 3 true).setIfInBounds 4 true) 5 = true := by kernel_rfl
theorem sb_130_6_6 : softB op_130_6 #[true, true, true, true, true, true, true, false, true] (((((((Array.replicate 9 false).setIfInBounds 0 true).setIfInBounds 1 true).setIfInBounds 2 true).setIfInBounds 3 true).setIfInBounds 4 true).setIfInBounds 5 true) 6 = true := by kernel_rfl
theorem sb_130_6_7 : hardB op_130_6 ((((((((Array.replicate 9 false).setIfInBounds 0 true).setIfInBounds 1 true).setIfInBounds 2 true).setIfInBounds 3 true).setIfInBounds 4 true).setIfInBounds 5 true).setIfInBounds 6 true) [7] = true := by kernel_rfl
theorem sb_130_6_8 : softB op_130_6 #[true, true, true, true, true, true, true, false, true] (((((((((Array.replicate 9 false).setIfInBounds 0 true).setIfInBounds 1 true).setIfInBounds 2 true).setIfInBounds 3 true).setIfInBounds 4 true).setIfInBounds 5 true).setIfInBounds 6 true).setIfInBounds 7 true) 8 = true := by kernel_rfl
theorem sb_130_6_9 : hardB op_130_6 ((((((((((Array.replicate 9 false).setIfInBounds 0 true).setIfInBounds 1 true).setIfInBounds 2 true).setIfInBounds 3 true).setIfInBounds 4 true).setIfInBounds 5 true).setIfInBounds 6 true).setIfInBounds 7 true).setIfInBounds 8 true) [] = true := by kernel_rfl
/- (*repo.Repo).move -/
def m130 (n : Nat) (r : RepoR) (g : Graph) (h_ : Head) (seq : Int) : Option (Int × Graph) :=
cond (decide (h_.name = [])) (
ob2 (m153 n g ({ Head.zero with seq := seq })) fun c1 z1 =>
some (c1, z1)) (
ob2 (m139 n g h_.name seq) fun c2 z2 =>
cond (decide (¬ (c2 = 0))) (
some (c2, z2)) (
ob2 (m153 n z2 ({ Head.zero with name := h_.name })) fun c3 z3 =>
some (c3, z3)))
theorem t130 {n : Nat} {C : List Chunk} {rc1 : Int} {rz1 : Graph} {b1 : Nat} {r : RepoR} {b2 : Nat} {g : Graph} {q1 : Option Addr} {q2 : Option Addr} {q3 : Option Addr} {h_ : Head} {seq : Int}   (hm : m130 n r g h_ seq = some (rc1, rz1)) : Trip Tryz.prog 130 #[.pointer (some ⟨b1, 0, none⟩), .agg (Head.enc h_).toArray, .int .i64 seq] ([[(b1, .cells (RepoR.enc (.pointer (some ⟨b2, 0, none⟩)) ((.pointer q2)) ((.pointer q3)) r).toArray 130 (0, 0))], [(b2, .cells (Graph.enc ((.pointer q1)) g).toArray 179 (0, 0))]] ++ [C]) (fun u S' => .int .i64 rc1 = u ∧ S' = [[(b1, .cells (RepoR.enc (.pointer (some ⟨b2, 0, none⟩)) ((.pointer q2)) ((.pointer q3)) r).toArray 130 (0, 0))], [(b2, .cells (Graph.enc ((.pointer q1)) rz1).toArray 179 (0, 0))]] ++ [C]) := by
  refine fn_entry (args := [.pointer (some ⟨b1, 0, none⟩), .agg (Head.enc h_).toArray, .int .i64 seq]) Tryz.func130 rfl Tryz.ntmps130 rfl (fun w0 => ?_)
  refine c_seq ?_
  refine c_region ?_
  refine o_box rfl rfl rfl rfl (fun b3 => ?_)
  refine o_L (y_assign rfl) rfl rfl ?_
  refine o_nil0 rfl ?_
  refine c_seq ?_
  refine c_seq ?_
  refine c_region ?_
  refine o_T (y_fa fl_54_0 rfl) rfl ?_
  refine o_ld one_9 rfl m0 (At.got (At.refl.comp Head.a_name)) rfl ?_
  refine o_T (y_seq rfl rfl) rfl ?_
  refine o_nil1 10 rfl rfl ?_
  refine c_cond rfl (fun h1 => ?_) (fun h1 => ?_)
  · have hm := cd_t h1 hm
    refine c_seq ?_
    refine c_region ?_
    refine o_T (y_move rfl) rfl ?_
    refine o_T (y_nilck rfl) rfl ?_
    refine o_T (y_fa fl_130_0 rfl) rfl ?_
    refine o_ld one_30 rfl (ms m0) (At.got (At.refl.comp RepoR.a_g)) rfl ?_
    refine o_T (y_move rfl) rfl ?_
    refine o_T (y_build st_54 rfl (fbU rfl Head.u_seq rfl rfl fbU0)) rfl ?_
    obtain ⟨c1, z1, hx1, hm⟩ := bd2 hm
    refine o_callC en_153 rfl (s_skip (s_skip (s_take s_nil))) (t153 hx1) rfl (fun u1 S1 hR1 => ?_)
    obtain ⟨rfl, rfl⟩ := hR1
    refine o_rest ?_
    refine o_L (y_assign rfl) rfl rfl ?_
    refine o_nil0 rfl ?_
    refine c_ret ?_
    obtain ⟨rfl, rfl⟩ := pr2 hm
    refine fun aX wX heX hsX => ret1 Tryz.results130 heX rfl (s_get (ks (ks k0)) (s_take (s_skip (s_take s_nil)))) ?_
    exact ⟨rfl, rfl⟩
  · have hm := cd_f h1 hm
    refine c_skip ?_
    refine c_seq ?_
    refine c_draw #[true, true, true, true, true, true, true, false, true] rfl (n := 9) rfl ?_
    refine d_T 0 rfl sb_130_3_0 rfl (y_move rfl) rfl ?_
    refine d_T 1 rfl sb_130_3_1 rfl (y_nilck rfl) rfl ?_
    refine d_T 2 rfl sb_130_3_2 rfl (y_fa fl_130_0 rfl) rfl ?_
    refine d_ld 3 rfl sb_130_3_3 one_30 rfl (fun x hx => hx) (ms m0) (At.got (At.refl.comp RepoR.a_g)) rfl ?_
    refine d_T 4 rfl sb_130_3_4 rfl (y_fa fl_54_0 rfl) rfl ?_
    refine d_ld 5 rfl sb_130_3_5 one_9 rfl (fun x hx => hx) m0 (At.got (At.refl.comp Head.a_name)) rfl ?_
    refine d_T 6 rfl sb_130_3_6 rfl (y_move rfl) rfl ?_
    refine d_hard 7 rfl sb_130_3_7 ?_
    obtain ⟨c2, z2, hx2, hm⟩ := bd2 hm
    refine o_callC en_139 rfl (s_skip (s_skip (s_take s_nil))) (t139 hx2) rfl (fun u2 S2 hR2 => ?_)
    obtain ⟨rfl, rfl⟩ := hR2
    refine o_rest ?_
    refine o_stop (fun h => nomatch h) ?_
    refine d_L 8 rfl sb_130_3_8 rfl (y_assign rfl) rfl rfl ?_
    refine d_nil0 sb_130_3_9 rfl ?_
    refine c_seq ?_
    refine c_seq ?_
    refine c_region ?_
    refine o_T (y_move rfl) rfl ?_
    refine o_T (y_neq rfl rfl) rfl ?_
    refine o_nil1 27 rfl rfl ?_
    refine c_cond rfl (fun h2 => ?_) (fun h2 => ?_)
    · have hm := cd_t h2 hm
      refine c_seq ?_
      refine c_region ?_
      refine o_T (y_move rfl) rfl ?_
      refine o_L (y_assign rfl) rfl rfl ?_
      refine o_nil0 rfl ?_
      refine c_ret ?_
      obtain ⟨rfl, rfl⟩ := pr2 hm
      refine fun aX wX heX hsX => ret1 Tryz.results130 heX rfl (s_get (ks (ks k0)) (s_take (s_skip (s_take s_nil)))) ?_
      exact ⟨rfl, rfl⟩
    · have hm := cd_f h2 hm
      refine c_skip ?_
      refine c_seq ?_
      refine c_draw #[true, true, true, true, true, true, true, false, true] rfl (n := 9) rfl ?_
      refine d_T 0 rfl sb_130_6_0 rfl (y_move rfl) rfl ?_
      refine d_T 1 rfl sb_130_6_1 rfl (y_nilck rfl) rfl ?_
      refine d_T 2 rfl sb_130_6_2 rfl (y_fa fl_130_0 rfl) rfl ?_
      refine d_ld 3 rfl sb_130_6_3 one_30 rfl (fun x hx => hx) (ms (ms m0)) (At.got (At.refl.comp RepoR.a_g)) rfl ?_
      refine d_T 4 rfl sb_130_6_4 rfl (y_fa fl_54_0 rfl) rfl ?_
      refine d_ld 5 rfl sb_130_6_5 one_9 rfl (fun x hx => hx) (ms m0) (At.got (At.refl.comp Head.a_name)) rfl ?_
      refine d_T 6 rfl sb_130_6_6 rfl (y_build st_54 rfl (fbU rfl Head.u_name rfl rfl fbU0)) rfl ?_
      refine d_hard 7 rfl sb_130_6_7 ?_
      obtain ⟨c3, z3, hx3, hm⟩ := bd2 hm
      refine o_callC en_153 rfl (s_take s_nil) (t153 hx3) rfl (fun u3 S3 hR3 => ?_)
      obtain ⟨rfl, rfl⟩ := hR3
      refine o_rest ?_
      refine o_stop (fun h => nomatch h) ?_
      refine d_L 8 rfl sb_130_6_8 rfl (y_assign rfl) rfl rfl ?_
      refine d_nil0 sb_130_6_9 rfl ?_
      refine c_ret ?_
      obtain ⟨rfl, rfl⟩ := pr2 hm
      refine fun aX wX heX hsX => ret1 Tryz.results130 heX rfl (s_get (ks (ks k0)) (s_take (s_skip (s_take s_nil)))) ?_
      exact ⟨rfl, rfl⟩
end Go.Proofs.Qxb6500350aGreat
