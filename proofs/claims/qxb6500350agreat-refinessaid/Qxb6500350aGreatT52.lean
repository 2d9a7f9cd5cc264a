/- MADE BY PROGRAM (tools350/mir.py): mirror and walk. -/
import Derived.Test.Qxb6500350aGreatF2
import Derived.Test.Qxb6500350aGreatT118
import Derived.Test.Qxb6500350aGreatT116
import Derived.Test.Qxb6500350aGreatT117
import Derived.Test.Qxb6500350aGreatT119
import Derived.Test.Qxb6500350aGreatT124
import Derived.Test.Qxb6500350aGreatT125
set_option linter.unusedVariables false
set_option linter.unusedSimpArgs false
set_option maxRecDepth 20000
set_option maxHeartbeats 4000000
namespace Go.Proofs.Qxb6500350aGreat
open Go.Eng

def op_52_7 : Array Go.Oper := #[{ dst := some 26, op := Go.Op.move (Go.Operand.tmp 0), type := 39, pos := "repom.go:121", after := #[], guard := none }, { dst := some 27, op := Go.Op.nilCheck (Go.Operand.tmp 26), type := 0, pos := "repom.go:121", after := #[{ on := 0, ground := Go.Ground.data }], guard := none }, { dst := some 28, op := Go.Op.fieldAddr 59 (Go.Operand.tmp 27) 4, type := 0, pos := "repom.go:121", after := #[{ on := 1, ground := Go.Ground.data }], guard := none }, { dst := some 29, op := Go.Op.load 57 (Go.Operand.tmp 28), type := 57, pos := "repom.go:121", after := #[{ on := 2, ground := Go.Ground.data }], guard := none }, { dst := some 30, op := Go.Op.move (Go.Operand.tmp 1), type := 9, pos := "repom.go:121", after := #[], guard := none }, { dst := some 31, op := Go.Op.move (Go.Operand.tmp 0), type := 39, pos := "repom.go:121", after := #[], guard := none }, { dst := some 32, op := Go.Op.nilCheck (Go.Operand.tmp 31), type := 0, pos := "repom.go:121", after := #[{ on := 5, ground := Go.Ground.data }], guard := none }, { dst := some 33, op := Go.Op.fieldAddr 59 (Go.Operand.tmp 32) 5, type := 0, pos := "repom.go:121", after := #[{ on := 6, ground := Go.Ground.data }], guard := none }, { dst := some 34, op := Go.Op.load 57 (Go.Operand.tmp 33), type := 57, pos := "repom.go:121", after := #[{ on := 7, ground := Go.Ground.data }], guard := none }, { dst := some 35, op := Go.Op.move (Go.Operand.tmp 6), type := 3, pos := "repom.go:121", after := #[], guard := none }, { dst := some 36, op := Go.Op.indexAddr 57 (Go.Operand.tmp 34) (Go.Operand.tmp 35), type := 0, pos := "repom.go:121", after := #[{ on := 8, ground := Go.Ground.data }, { on := 9, ground := Go.Ground.data }], guard := none }, { dst := some 37, op := Go.Op.fieldAddr 71 (Go.Operand.tmp 36) 1, type := 0, pos := "repom.go:121", after := #[{ on := 10, ground := Go.Ground.data }], guard := none }, { dst := some 38, op := Go.Op.load 9 (Go.Operand.tmp 37), type := 9, pos := "repom.go:121", after := #[{ on := 11, ground := Go.Ground.data }], guard := none }, { dst := some 39, op := Go.Op.build 71 #[(0, Go.Operand.tmp 30), (1, Go.Operand.tmp 38)], type := 71, pos := "repom.go:121", after := #[{ on := 4, ground := Go.Ground.data }, { on := 12, ground := Go.Ground.data }], guard := none }, { dst := some 40, op := Go.Op.call { callee := Go.Callee.value (Go.Operand.func 117), args := #[Go.Operand.tmp 29, Go.Operand.tmp 39], argTypes := #[57, 71] }, type := 57, pos := "repom.go:121", after := #[{ on := 3, ground := Go.Ground.data }, { on := 13, ground := Go.Ground.data }], guard := none }, { dst := some 5, op := Go.Op.assign (Go.Operand.tmp 40), type := 57, pos := "repom.go:121", after := #[{ on := 14, ground := Go.Ground.data }, { on := 14, ground := Go.Ground.chain }, { on := 0, ground := Go.Ground.phase }, { on := 1, ground := Go.Ground.phase }, { on := 2, ground := Go.Ground.phase }, { on := 3, ground := Go.Ground.phase }, { on := 4, ground := Go.Ground.phase }, { on := 5, ground := Go.Ground.phase }, { on := 6, ground := Go.Ground.phase }, { on := 7, ground := Go.Ground.phase }, { on := 8, ground := Go.Ground.phase }, { on := 9, ground := Go.Ground.phase }, { on := 10, ground := Go.Ground.phase }, { on := 11, ground := Go.Ground.phase }, { on := 12, ground := Go.Ground.phase }, { on := 13, ground := Go.Ground.phase }, { on := 14, ground := Go.Ground.phase }], guard := none }]
theorem sb_52_7_0 : softB op_52_7 #[true, true, true, true, true, true, true, true, true, true, true, true, true, true, false, true] (Array.replicate 16 false) 0 = true := by kernel_rfl
theorem sb_52_7_1 : softB op_52_7 #[true, true, true, true, true, true, true, true, true, true, true, true, true, true, false, true] ((Array.replicate 16 false).setIfInBounds 0 true) 1 = true := by kernel_rfl
theorem sb_52_7_2 : softB op_52_7 #[true, true, true, true, true, true, true, true, true, true, true, true, true, true, false, true] (((Array.replicate 16 false).setIfInBounds 0 true).setIfInBounds 1 true) 2 = true := by kernel_rfl
theorem sb_52_7_3 : softB op_52_7 #[true, true, true, true, true, true, true, true, true, true, true, true, true, true, false, true] ((((Array.replicate 16 false).setIfInBounds 0 true).setIfInBounds 1 true).setIfInBounds 2 true) 3 = true := by kernel_rfl
theorem sb_52_7_4 : softB op_52_7 #[true, true, true, true, true, true, true, true, true, true, true, true, true, true, false, true] (((((Array.replicate 16 false).setIfInBounds 0 true).setIfInBounds 1 true).setIfInBounds 2 true).setIfInBounds 3 true) 4 = true := by kernel_rfl
theorem sb_52_7_5 : softB op_52_7 #[true, true, true, true, true, true, true, true, true, true, true, true, true, true, false, true] ((((((Array.replicate 16 false).setIfInBounds 0 true).setIfInBounds 1 true).setIfInBounds 2 true).setIfInBounds 3 true).setIfInBounds 4 true) 5 = true := by kernel_rfl
theorem sb_52_7_6 : softB op_52_7 #[true, true, true, true, true, true, true, true, true, true, true, true, true, true, false, true] (((((((Array.replicate 16 false).setIfInBounds 0 true).setIfInBounds 1 true).setIfInBounds 2 true).setIfInBounds 3 true).setIfInBounds 4 true).setIfInBounds 5 true) 6 = true := by kernel_rfl
theorem sb_52_7_7 : softB op_52_7 #[true, true, true, true, true, true, true, true, true, true, true, true, true, true, false, true] ((((((((Array.replicate 16 false).setIfInBounds 0 true).setIfInBounds 1 true).setIfInBounds 2 true).setIfInBounds 3 true).setIfInBounds 4 true).setIfInBounds 5 true).setIfInBounds 6 true) 7 = true := by kernel_rfl
theorem sb_52_7_8 : softB op_52_7 #[true, true, true, true, true, true, true, true, true, true, true, true, true, true, false, true] (((((((((Array.replicate 16 false).setIfInBounds 0 true).setIfInBounds 1 true).setIfInBounds 2 true).setIfInBounds 3 true).setIfInBounds 4 true).setIfInBounds 5 true).setIfInBounds 6 true).setIfInBounds 7 true) 8 = true := by kernel_rfl
theorem sb_52_7_9 : softB op_52_7 #[true, true, true, true, true, true, true, true, true, true, true, true, true, true, false, true] ((((((((((Array.replicate 16 false).setIfInBounds 0 true).setIfInBounds 1 true).setIfInBounds 2 true).setIfInBounds 3 true).setIfInBounds 4 true).setIfInBounds 5 true).setIfInBounds 6 true).setIfInBounds 7 true).setIfInBounds 8 true) 9 = true := by kernel_rfl
theorem sb_52_7_10 : softB op_52_7 #[true, true, true, true, true, true, true, true, true, true, true, true, true, true, false, true] (((((((((((Array.replicate 16 false).setIfInBounds 0 true).setIfInBounds 1 true).setIfInBounds 2 true).setIfInBounds 3 true).setIfInBounds 4 true).setIfInBounds 5 true).setIfInBounds 6 true).setIfInBounds 7 true).setIfInBounds 8 true).setIfInBounds 9 true) 10 = true := by kernel_rfl
theorem sb_52_7_11 : softB op_52_7 #[true, true, true, true, true, true, true, true, true, true, true, true, true, true, false, true] ((((((((((((Array.replicate 16 false).setIfInBounds 0 true).setIfInBounds 1 true).setIfInBounds 2 true).setIfInBounds 3 true).setIfInBounds 4 true).setIfInBounds 5 true).setIfInBounds 6 true).setIfInBounds 7 true).setIfInBounds 8 true).setIfInBounds 9 true).setIfInBounds 10 true) 11 = true := by kernel_rfl
theorem sb_52_7_12 : softB op_52_7 #[true, true, true, true, true, true, true, true, true, true, true, true, true, true, false, true] (((((((((((((Array.replicate 16 false).setIfInBounds 0 true).setIfInBounds 1 true).setIfInBounds 2 true).setIfInBounds 3 true).setIfInBounds 4 true).setIfInBounds 5 true).setIfInBounds 6 true).setIfInBounds 7 true).setIfInBounds 8 true).setIfInBounds 9 true).setIfInBounds 10 true).setIfInBounds 11 true) 12 = true := by kernel_rfl
theorem sb_52_7_13 : softB op_52_7 #[true, true, true, true, true, true, true, true, true, true, true, true, true, true, false, true] ((((((((((((((Array.replicate 16 false).setIfInBounds 0 true).setIfInBounds 1 true).setIfInBounds 2 true).setIfInBounds 3 true).setIfInBounds 4 true).setIfInBounds 5 true).setIfInBounds 6 true).setIfInBounds 7 true).setIfInBounds 8 true).setIfInBounds 9 true).setIfInBounds 10 true).setIfInBounds 11 true).setIfInBounds 12 true) 13 = true := by kernel_rfl
theorem sb_52_7_14 : hardB op_52_7 (((((((((((((((Array.replicate 16 false).setIfInBounds 0 true).setIfInBounds 1 true).setIfInBounds 2 true).setIfInBounds 3 true).setIfInBounds 4 true).setIfInBounds 5 true).setIfInBounds 6 true).setIfInBounds 7 true).setIfInBounds 8 true).setIfInBounds 9 true).setIfInBounds 10 true).setIfInBounds 11 true).setIfInBounds 12 true).setIfInBounds 13 true) [14] = true := by kernel_rfl
theorem sb_52_7_15 : softB op_52_7 #[true, true, true, true, true, true, true, true, true, true, true, true, true, true, false, true] ((((((((((((((((Array.replicate 16 false).setIfInBounds 0 true).setIfInBounds 1 true).setIfInBounds 2 true).setIfInBounds 3 true).setIfInBounds 4 true).setIfInBounds 5 true).setIfInBounds 6 true).setIfInBounds 7 true).setIfInBounds 8 true).setIfInBounds 9 true).setIfInBounds 10 true).setIfInBounds 11 true).setIfInBounds 12 true).setIfInBounds 13 true).setIfInBounds 14 true) 15 = true := by kernel_rfl
theorem sb_52_7_16 : hardB op_52_7 (((((((((((((((((Array.replicate 16 false).setIfInBounds 0 true).setIfInBounds 1 true).setIfInBounds 2 true).setIfInBounds 3 true).setIfInBounds 4 true).setIfInBounds 5 true).setIfInBounds 6 true).setIfInBounds 7 true).setIfInBounds 8 true).setIfInBounds 9 true).setIfInBounds 10 true).setIfInBounds 11 true).setIfInBounds 12 true).setIfInBounds 13 true).setIfInBounds 14 true).setIfInBounds 15 true) [] = true := by kernel_rfl
/- (*repom.Repo).Add -/
def m52 (n : Nat) (m : RepoM) (path : Str) : Option (Int × RepoM) :=
ob1 (m118 n m.work path) fun c1 =>
flow (cond (decide ((0 : Int) ≤ c1)) (
ob1 (m116 n m.index path) fun c2 =>
cond (decide (¬ (c2 = 0))) (
Option.bind (some (c2, m)) fun q1 => some (.ret q1)) (
Option.bind (ixL m.work c1) fun x1 =>
ob1 (m117 n m.index ({ File.zero with path := path, data := x1.data })) fun l2 =>
some (.nx l2))) (
ob1 (m118 n m.index path) fun c3 =>
cond (decide ((0 : Int) ≤ c3)) (
ob1 (m119 n m.index path) fun l3 =>
some (.nx l3)) (
Option.bind (some (13, m)) fun q2 => some (.ret q2)))) some (un1 fun l1 =>
ob1 (m124 n l1) fun c4 =>
ob2 (m125 n m (wi (c4 + 1))) fun c5 z2 =>
cond (!c5) (
some (5, z2)) (
nm ({ z2 with index := l1 } : RepoM) fun z3 =>
some (0, z3)))
theorem t52 {n : Nat} {C : List Chunk} {rc1 : Int} {rz1 : RepoM} {b1 : Nat} {m : RepoM} {v1 : Value} {g1 : List Chunk} {v2 : Value} {g2 : List Chunk} {v3 : Value} {g3 : List Chunk} {v4 : Value} {g4 : List Chunk} {path : Str} (ho1 : Own rNode v1 m.nodes g1) (ho2 : Own rRef_ v2 m.refs g2) (ho3 : Own rFile v3 m.index g3) (ho4 : Own rFile v4 m.work g4)  (hm : m52 n m path = some (rc1, rz1)) : Trip Tryz.prog 52 #[.pointer (some ⟨b1, 0, none⟩), .string ⟨(path : Str).toArray⟩] ([[(b1, .cells (RepoM.enc (v1) (v2) (v3) (v4) m).toArray 59 (0, 0))], g1, g2, g3, g4] ++ [C]) (fun u S' => ∃ (ev3 : Value), ∃ (eg3 : List Chunk), .int .i64 rc1 = u ∧ S' = [[(b1, .cells (RepoM.enc (v1) (v2) (ev3) (v4) rz1).toArray 59 (0, 0))], g1, g2, eg3, g4] ++ [C] ∧ Own rNode v1 rz1.nodes g1 ∧ Own rRef_ v2 rz1.refs g2 ∧ Own rFile ev3 rz1.index eg3 ∧ Own rFile v4 rz1.work g4) := by
  refine fn_entry (args := [.pointer (some ⟨b1, 0, none⟩), .string ⟨(path : Str).toArray⟩]) Tryz.func52 rfl Tryz.ntmps52 rfl (fun w0 => ?_)
  refine c_seq ?_
  refine c_region ?_
  refine o_L (y_assign rfl) rfl rfl ?_
  refine o_nil0 rfl ?_
  refine c_seq ?_
  refine c_region ?_
  have ho5 : Own rFile (.slice none 0 0) [] [] := Own.nil
  refine o_emp ?_
  refine o_L (y_assign rfl) rfl rfl ?_
  refine o_nil0 rfl ?_
  refine c_seq ?_
  refine c_region ?_
  refine o_T (y_move rfl) rfl ?_
  refine o_T (y_nilck rfl) rfl ?_
  refine o_T (y_fa fl_59_5 rfl) rfl ?_
  refine o_ld one_57 rfl (ms m0) (At.got (At.refl.comp RepoM.a_work)) rfl ?_
  refine o_T (y_move rfl) rfl ?_
  obtain ⟨c1, hx1, hm⟩ := bd1 hm
  refine o_callC en_118 rfl s_nil (t118 (ho4.rd.mono (fun _ hz => (ms (ms (ms (ms (ms (mg hz)))))))) hx1) rfl (fun u1 S1 hR1 => ?_)
  obtain ⟨rfl, rfl⟩ := hR1
  refine o_rest ?_
  refine o_L (y_assign rfl) rfl rfl ?_
  refine o_nil0 rfl ?_
  refine c_seq ?_
  refine c_seq ?_
  refine c_region ?_
  refine o_T (y_move rfl) rfl ?_
  refine o_T (y_geq rfl rfl) rfl ?_
  refine o_nil1 16 rfl rfl ?_
  obtain ⟨f1, F1, hF1, hj1, hF2⟩ := fl2 hm
  refine c_joinP (n := 1) (fun sh G => ∃ (l1 : List File), ∃ (v5 : Value), ∃ (g5 : List Chunk), sh = [(5, v5)] ∧ G = [g5] ∧ F1 l1 = some (rc1, rz1) ∧ Own rFile v5 l1 g5) (s_take (s_take (s_take (s_take (s_take (s_take (s_take s_nil))))))) (.s .z) (fun _ _ h => h) ?_ ?_
  · have hm := hj1
    refine c_cond rfl (fun h1 => ?_) (fun h1 => ?_)
    · have hm := cd_t h1 hm
      refine c_seq ?_
      refine c_region ?_
      refine o_T (y_move rfl) rfl ?_
      refine o_T (y_nilck rfl) rfl ?_
      refine o_T (y_fa fl_59_4 rfl) rfl ?_
      refine o_ld one_57 rfl (ms m0) (At.got (At.refl.comp RepoM.a_index)) rfl ?_
      refine o_T (y_move rfl) rfl ?_
      obtain ⟨c2, hx2, hm⟩ := bd1 hm
      refine o_callC en_116 rfl s_nil (t116 (ho3.rd.mono (fun _ hz => (ms (ms (ms (ms (mg hz))))))) hx2) rfl (fun u2 S2 hR2 => ?_)
      obtain ⟨rfl, rfl⟩ := hR2
      refine o_rest ?_
      refine o_L (y_assign rfl) rfl rfl ?_
      refine o_nil0 rfl ?_
      refine c_seq ?_
      refine c_seq ?_
      refine c_region ?_
      refine o_T (y_move rfl) rfl ?_
      refine o_T (y_neq rfl rfl) rfl ?_
      refine o_nil1 24 rfl rfl ?_
      refine c_cond rfl (fun h2 => ?_) (fun h2 => ?_)
      · have hm := cd_t h2 hm
        refine c_seq ?_
        refine c_region ?_
        refine o_T (y_move rfl) rfl ?_
        refine o_L (y_assign rfl) rfl rfl ?_
        refine o_nil0 rfl ?_
        refine c_ret ?_
        obtain ⟨q1, hq1, hm⟩ := bd hm
        have hm := fl_ret hm hF2
        have hm := hq1.trans hm
        obtain ⟨rfl, rfl⟩ := pr2 hm
        refine fun aX wX heX hsX => ret1 Tryz.results52 heX rfl (s_skip (s_take (s_take (s_take (s_take (s_take (s_take s_nil))))))) ?_
        exact ⟨v3, _, rfl, rfl, ho1, ho2, ho3, ho4⟩
      · have hm := cd_f h2 hm
        refine c_skip ?_
        refine c_draw #[true, true, true, true, true, true, true, true, true, true, true, true, true, true, false, true] rfl (n := 16) rfl ?_
        refine d_T 0 rfl sb_52_7_0 rfl (y_move rfl) rfl ?_
        refine d_T 1 rfl sb_52_7_1 rfl (y_nilck rfl) rfl ?_
        refine d_T 2 rfl sb_52_7_2 rfl (y_fa fl_59_4 rfl) rfl ?_
        refine d_ld 3 rfl sb_52_7_3 one_57 rfl (fun x hx => hx) (ms m0) (At.got (At.refl.comp RepoM.a_index)) rfl ?_
        refine d_T 4 rfl sb_52_7_4 rfl (y_move rfl) rfl ?_
        refine d_T 5 rfl sb_52_7_5 rfl (y_move rfl) rfl ?_
        refine d_T 6 rfl sb_52_7_6 rfl (y_nilck rfl) rfl ?_
        refine d_T 7 rfl sb_52_7_7 rfl (y_fa fl_59_5 rfl) rfl ?_
        refine d_ld 8 rfl sb_52_7_8 one_57 rfl (fun x hx => hx) (ms m0) (At.got (At.refl.comp RepoM.a_work)) rfl ?_
        refine d_T 9 rfl sb_52_7_9 rfl (y_move rfl) rfl ?_
        obtain ⟨x1, hx3, hm⟩ := bd hm
        obtain ⟨b2, w1, cs1, y1, z1, vs1, hc1, ha1, hr1, hy1⟩ := ho4.rd.ix hx3
        obtain rfl : vs1 = File.enc x1 := hr1
        refine d_T 10 rfl sb_52_7_10 rfl (hy1 sl_57 rfl rfl rfl) rfl ?_
        refine d_T 11 rfl sb_52_7_11 rfl (y_fa fl_71_1 rfl) rfl ?_
        refine d_ld 12 rfl sb_52_7_12 one_9 rfl (fun x hx => hx) (ms (ms (ms (ms (ms (mg hc1)))))) (At.getA (ha1.comp File.a_data)) rfl ?_
        refine d_T 13 rfl sb_52_7_13 rfl (y_build st_71 rfl (fbU rfl File.u_path rfl rfl (fbU rfl File.u_data rfl rfl fbU0))) rfl ?_
        refine d_hard 14 rfl sb_52_7_14 ?_
        obtain ⟨l2, hx4, hm⟩ := bd1 hm
        refine o_callC en_117 rfl s_nil (t117 (ho3.rd.mono (fun _ hz => (ms (ms (ms (ms (mg hz))))))) hx4) rfl (fun u3 S3 hR3 => ?_)
        obtain ⟨v6, g6, rfl, rfl, ho7⟩ := hR3
        refine o_rest ?_
        refine o_stop (fun h => nomatch h) ?_
        refine d_L 15 rfl sb_52_7_15 rfl (y_assign rfl) rfl rfl ?_
        refine d_nil0 sb_52_7_16 rfl ?_
        have hm := fl_nx hm hF2
        exact ⟨_, _, ⟨_, v6, _, rfl, rfl, hm, ho7⟩, ⟨rfl, trivial⟩, ⟨rfl, rfl⟩, _, (s_take (s_skip (s_take (s_take (s_take (s_take (s_take (s_take s_nil))))))))⟩
    · have hm := cd_f h1 hm
      refine c_seq ?_
      refine c_region ?_
      refine o_T (y_move rfl) rfl ?_
      refine o_T (y_nilck rfl) rfl ?_
      refine o_T (y_fa fl_59_4 rfl) rfl ?_
      refine o_ld one_57 rfl (ms m0) (At.got (At.refl.comp RepoM.a_index)) rfl ?_
      refine o_T (y_move rfl) rfl ?_
      obtain ⟨c3, hx5, hm⟩ := bd1 hm
      refine o_callC en_118 rfl s_nil (t118 (ho3.rd.mono (fun _ hz => (ms (ms (ms (ms (mg hz))))))) hx5) rfl (fun u4 S4 hR4 => ?_)
      obtain ⟨rfl, rfl⟩ := hR4
      refine o_rest ?_
      refine o_T (y_geq rfl rfl) rfl ?_
      refine o_nil1 47 rfl rfl ?_
      refine c_cond rfl (fun h3 => ?_) (fun h3 => ?_)
      · have hm := cd_t h3 hm
        refine c_region ?_
        refine o_T (y_move rfl) rfl ?_
        refine o_T (y_nilck rfl) rfl ?_
        refine o_T (y_fa fl_59_4 rfl) rfl ?_
        refine o_ld one_57 rfl (ms m0) (At.got (At.refl.comp RepoM.a_index)) rfl ?_
        refine o_T (y_move rfl) rfl ?_
        obtain ⟨l3, hx6, hm⟩ := bd1 hm
        refine o_callC en_119 rfl s_nil (t119 (ho3.rd.mono (fun _ hz => (ms (ms (ms (ms (mg hz))))))) hx6) rfl (fun u5 S5 hR5 => ?_)
        obtain ⟨v7, g7, rfl, rfl, ho8⟩ := hR5
        refine o_rest ?_
        refine o_L (y_assign rfl) rfl rfl ?_
        refine o_nil0 rfl ?_
        have hm := fl_nx hm hF2
        exact ⟨_, _, ⟨_, v7, _, rfl, rfl, hm, ho8⟩, ⟨rfl, trivial⟩, ⟨rfl, rfl⟩, _, (s_take (s_skip (s_take (s_take (s_take (s_take (s_take (s_take s_nil))))))))⟩
      · have hm := cd_f h3 hm
        refine c_seq ?_
        refine c_region ?_
        refine o_L (y_assign rfl) rfl rfl ?_
        refine o_nil0 rfl ?_
        refine c_ret ?_
        obtain ⟨q2, hq2, hm⟩ := bd hm
        have hm := fl_ret hm hF2
        have hm := hq2.trans hm
        obtain ⟨rfl, rfl⟩ := pr2 hm
        refine fun aX wX heX hsX => ret1 Tryz.results52 heX rfl (s_skip (s_take (s_take (s_take (s_take (s_take (s_take s_nil))))))) ?_
        exact ⟨v3, _, rfl, rfl, ho1, ho2, ho3, ho4⟩
  · rintro sh G ⟨l1, v5, g5, rfl, rfl, hm, ho6⟩
    subst hF1
    refine c_seq ?_
    refine c_region ?_
    refine o_T (y_move rfl) rfl ?_
    obtain ⟨c4, hx7, hm⟩ := bd1 hm
    refine o_callC en_124 rfl s_nil (t124 (ho6.rd.mono (fun _ hz => (mg hz))) hx7) rfl (fun u6 S6 hR6 => ?_)
    obtain ⟨rfl, rfl⟩ := hR6
    refine o_rest ?_
    refine o_T (y_add rfl rfl rfl) rfl ?_
    refine o_L (y_assign rfl) rfl rfl ?_
    refine o_nil0 rfl ?_
    refine c_seq ?_
    refine c_seq ?_
    refine c_region ?_
    refine o_T (y_move rfl) rfl ?_
    refine o_T (y_move rfl) rfl ?_
    obtain ⟨c5, z2, hx8, hm⟩ := bd2 hm
    refine o_callC en_125 rfl (s_skip (s_take (s_take (s_take (s_take (s_take s_nil)))))) (t125 ho1 ho2 ho3 ho4 hx8) rfl (fun u7 S7 hR7 => ?_)
    obtain ⟨rfl, rfl, ho9, ho10, ho11, ho12⟩ := hR7
    refine o_rest ?_
    refine o_T (y_not rfl) rfl ?_
    refine o_nil1 60 rfl rfl ?_
    refine c_cond rfl (fun h4 => ?_) (fun h4 => ?_)
    · have hm := cd_t h4 hm
      refine c_seq ?_
      refine c_region ?_
      refine o_L (y_assign rfl) rfl rfl ?_
      refine o_nil0 rfl ?_
      refine c_ret ?_
      obtain ⟨rfl, rfl⟩ := pr2 hm
      refine fun aX wX heX hsX => ret1 Tryz.results52 heX rfl (s_take (s_take (s_take (s_take (s_take (s_skip (s_take s_nil))))))) ?_
      exact ⟨v3, _, rfl, rfl, ho9, ho10, ho11, ho12⟩
    · have hm := cd_f h4 hm
      refine c_skip ?_
      refine c_seq ?_
      refine c_region ?_
      refine o_T (y_move rfl) rfl ?_
      refine o_T (y_move rfl) rfl ?_
      refine o_T (y_nilck rfl) rfl ?_
      refine o_T (y_fa fl_59_4 rfl) rfl ?_
      obtain ⟨z3, hn1, hm⟩ := nm_s hm
      have ho13 := ho9.to (l' := z3.nodes) (by subst hn1; rfl)
      have ho14 := ho10.to (l' := z3.refs) (by subst hn1; rfl)
      have ho15 := ho6.to (l' := z3.index) (by subst hn1; rfl)
      have ho16 := ho12.to (l' := z3.work) (by subst hn1; rfl)
      refine o_stN one_57 rfl rfl ho6.pl (Upd.z RepoM.u_index) r0 (show (RepoM.enc (v1) (v2) (v5) (v4) z3) = _ from by subst hn1; rfl) ?_
      refine o_nil0 rfl ?_
      refine c_seq ?_
      refine c_region ?_
      refine o_L (y_assign rfl) rfl rfl ?_
      refine o_nil0 rfl ?_
      refine c_ret ?_
      obtain ⟨rfl, rfl⟩ := pr2 hm
      refine fun aX wX heX hsX => ret1 Tryz.results52 heX rfl (s_take (s_take (s_take (s_skip (s_get (ks k0) (s_take (s_take s_nil))))))) ?_
      exact ⟨v5, _, rfl, rfl, ho13, ho14, ho15, ho16⟩
end Go.Proofs.Qxb6500350aGreat
