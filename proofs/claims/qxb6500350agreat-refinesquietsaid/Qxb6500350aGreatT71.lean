/- MADE BY PROGRAM (tools350/mir.py): mirror and walk. -/
import Derived.Test.Qxb6500350aGreatF2
set_option linter.unusedVariables false
set_option linter.unusedSimpArgs false
set_option maxRecDepth 20000
set_option maxHeartbeats 4000000
namespace Go.Proofs.Qxb6500350aGreat
open Go.Eng

def op_71_5 : Array Go.Oper := #[{ dst := some 11, op := Go.Op.move (Go.Operand.tmp 3), type := 57, pos := "status.go:53", after := #[], guard := none }, { dst := some 12, op := Go.Op.move (Go.Operand.tmp 0), type := 57, pos := "status.go:53", after := #[], guard := none }, { dst := some 13, op := Go.Op.move (Go.Operand.tmp 4), type := 3, pos := "status.go:53", after := #[], guard := none }, { dst := some 14, op := Go.Op.indexAddr 57 (Go.Operand.tmp 12) (Go.Operand.tmp 13), type := 0, pos := "status.go:53", after := #[{ on := 1, ground := Go.Ground.data }, { on := 2, ground := Go.Ground.data }], guard := none }, { dst := some 15, op := Go.Op.fieldAddr 71 (Go.Operand.tmp 14) 0, type := 0, pos := "status.go:53", after := #[{ on := 3, ground := Go.Ground.data }], guard := none }, { dst := some 16, op := Go.Op.load 9 (Go.Operand.tmp 15), type := 9, pos := "status.go:53", after := #[{ on := 4, ground := Go.Ground.data }], guard := none }, { dst := some 17, op := Go.Op.move (Go.Operand.tmp 0), type := 57, pos := "status.go:53", after := #[], guard := none }, { dst := some 18, op := Go.Op.move (Go.Operand.tmp 4), type := 3, pos := "status.go:53", after := #[], guard := none }, { dst := some 19, op := Go.Op.indexAddr 57 (Go.Operand.tmp 17) (Go.Operand.tmp 18), type := 0, pos := "status.go:53", after := #[{ on := 6, ground := Go.Ground.data }, { on := 7, ground := Go.Ground.data }], guard := none }, { dst := some 20, op := Go.Op.fieldAddr 71 (Go.Operand.tmp 19) 1, type := 0, pos := "status.go:53", after := #[{ on := 8, ground := Go.Ground.data }], guard := none }, { dst := some 21, op := Go.Op.load 9 (Go.Operand.tmp 20), type := 9, pos := "status.go:53", after := #[{ on := 9, ground := Go.Ground.data }], guard := none }, { dst := some 22, op := Go.Op.build 71 #[(0, Go.Operand.tmp 16), (1, Go.Operand.tmp 21)], type := 71, pos := "status.go:53", after := #[{ on := 5, ground := Go.Ground.data }, { on := 10, ground := Go.Ground.data }], guard := none }, { dst := some 23, op := Go.Op.buildSlice 57 1 #[(0, Go.Operand.tmp 22)], type := 57, pos := "status.go:53", after := #[{ on := 11, ground := Go.Ground.data }], guard := none }, { dst := some 24, op := Go.Op.call { callee := Go.Callee.builtin Go.Builtin.append, args := #[Go.Operand.tmp 11, Go.Operand.tmp 23], argTypes := #[57, 57] }, type := 57, pos := "status.go:53", after := #[{ on := 0, ground := Go.Ground.data }, { on := 12, ground := Go.Ground.data }], guard := none }, { dst := some 3, op := Go.Op.assign (Go.Operand.tmp 24), type := 57, pos := "status.go:53", after := #[{ on := 13, ground := Go.Ground.data }, { on := 13, ground := Go.Ground.chain }, { on := 0, ground := Go.Ground.phase }, { on := 1, ground := Go.Ground.phase }, { on := 2, ground := Go.Ground.phase }, { on := 3, ground := Go.Ground.phase }, { on := 4, ground := Go.Ground.phase }, { on := 5, ground := Go.Ground.phase }, { on := 6, ground := Go.Ground.phase }, { on := 7, ground := Go.Ground.phase }, { on := 8, ground := Go.Ground.phase }, { on := 9, ground := Go.Ground.phase }, { on := 10, ground := Go.Ground.phase }, { on := 11, ground := Go.Ground.phase }, { on := 12, ground := Go.Ground.phase }, { on := 13, ground := Go.Ground.phase }], guard := none }]
theorem sb_71_5_0 : softB op_71_5 #[true, true, true, true, true, true, true, true, true, true, true, true, true, false, true] (Array.replicate 15 false) 0 = true := by kernel_rfl
theorem sb_71_5_1 : softB op_71_5 #[true, true, true, true, true, true, true, true, true, true, true, true, true, false, true] ((Array.replicate 15 false).setIfInBounds 0 true) 1 = true := by kernel_rfl
theorem sb_71_5_2 : softB op_71_5 #[true, true, true, true, true, true, true, true, true, true, true, true, true, false, true] (((Array.replicate 15 false).setIfInBounds 0 true).setIfInBounds 1 true) 2 = true := by kernel_rfl
theorem sb_71_5_3 : softB op_71_5 #[true, true, true, true, true, true, true, true, true, true, true, true, true, false, true] ((((Array.replicate 15 false).setIfInBounds 0 true).setIfInBounds 1 true).setIfInBounds 2 true) 3 = true := by kernel_rfl
theorem sb_71_5_4 : softB op_71_5 #[true, true, true, true, true, true, true, true, true, true, true, true, true, false, true] (((((Array.replicate 15 false).setIfInBounds 0 true).setIfInBounds 1 true).setIfInBounds 2 true).setIfInBounds 3 true) 4 = true := by kernel_rfl
theorem sb_71_5_5 : softB op_71_5 #[true, true, true, true, true, true, true, true, true, true, true, true, true, false, true] ((((((Array.replicate 15 false).setIfInBounds 0 true).setIfInBounds 1 true).setIfInBounds 2 true).setIfInBounds 3 true).setIfInBounds 4 true) 5 = true := by kernel_rfl
theorem sb_71_5_6 : softB op_71_5 #[true, true, true, true, true, true, true, true, true, true, true, true, true, false, true] (((((((Array.replicate 15 false).setIfInBounds 0 true).setIfInBounds 1 true).setIfInBounds 2 true).setIfInBounds 3 true).setIfInBounds 4 true).setIfInBounds 5 true) 6 = true := by kernel_rfl
theorem sb_71_5_7 : softB op_71_5 #[true, true, true, true, true, true, true, true, true, true, true, true, true, false, true] ((((((((Array.replicate 15 false).setIfInBounds 0 true).setIfInBounds 1 true).setIfInBounds 2 true).setIfInBounds 3 true).setIfInBounds 4 true).setIfInBounds 5 true).setIfInBounds 6 true) 7 = true := by kernel_rfl
theorem sb_71_5_8 : softB op_71_5 #[true, true, true, true, true, true, true, true, true, true, true, true, true, false, true] (((((((((Array.replicate 15 false).setIfInBounds 0 true).setIfInBounds 1 true).setIfInBounds 2 true).setIfInBounds 3 true).setIfInBounds 4 true).setIfInBounds 5 true).setIfInBounds 6 true).setIfInBounds 7 true) 8 = true := by kernel_rfl
theorem sb_71_5_9 : softB op_71_5 #[true, true, true, true, true, true, true, true, true, true, true, true, true, false, true] ((((((((((Array.replicate 15 false).setIfInBounds 0 true).setIfInBounds 1 true).setIfInBounds 2 true).setIfInBounds 3 true).setIfInBounds 4 true).setIfInBounds 5 true).setIfInBounds 6 true).setIfInBounds 7 true).setIfInBounds 8 true) 9 = true := by kernel_rfl
theorem sb_71_5_10 : softB op_71_5 #[true, true, true, true, true, true, true, true, true, true, true, true, true, false, true] (((((((((((Array.replicate 15 false).setIfInBounds 0 true).setIfInBounds 1 true).setIfInBounds 2 true).setIfInBounds 3 true).setIfInBounds 4 true).setIfInBounds 5 true).setIfInBounds 6 true).setIfInBounds 7 true).setIfInBounds 8 true).setIfInBounds 9 true) 10 = true := by kernel_rfl
theorem sb_71_5_11 : softB op_71_5 #[true, true, true, true, true, true, true, true, true, true, true, true, true, false, true] ((((((((((((Array.replicate 15 false).setIfInBounds 0 true).setIfInBounds 1 true).setIfInBounds 2 true).setIfInBounds 3 true).setIfInBounds 4 true).setIfInBounds 5 true).setIfInBounds 6 true).setIfInBounds 7 true).setIfInBounds 8 true).setIfInBounds 9 true).setIfInBounds 10 true) 11 = true := by kernel_rfl
theorem sb_71_5_12 : hardB op_71_5 (((((((((((((Array.replicate 15 false).setIfInBounds 0 true).setIfInBounds 1 true).setIfInBounds 2 true).setIfInBounds 3 true).setIfInBounds 4 true).setIfInBounds 5 true).setIfInBounds 6 true).setIfInBounds 7 true).setIfInBounds 8 true).setIfInBounds 9 true).setIfInBounds 10 true).setIfInBounds 11 true) [12] = true := by kernel_rfl
theorem sb_71_5_13 : hardB op_71_5 ((((((((((((((Array.replicate 15 false).setIfInBounds 0 true).setIfInBounds 1 true).setIfInBounds 2 true).setIfInBounds 3 true).setIfInBounds 4 true).setIfInBounds 5 true).setIfInBounds 6 true).setIfInBounds 7 true).setIfInBounds 8 true).setIfInBounds 9 true).setIfInBounds 10 true).setIfInBounds 11 true).setIfInBounds 12 true) [13] = true := by kernel_rfl
theorem sb_71_5_14 : softB op_71_5 #[true, true, true, true, true, true, true, true, true, true, true, true, true, false, true] (((((((((((((((Array.replicate 15 false).setIfInBounds 0 true).setIfInBounds 1 true).setIfInBounds 2 true).setIfInBounds 3 true).setIfInBounds 4 true).setIfInBounds 5 true).setIfInBounds 6 true).setIfInBounds 7 true).setIfInBounds 8 true).setIfInBounds 9 true).setIfInBounds 10 true).setIfInBounds 11 true).setIfInBounds 12 true).setIfInBounds 13 true) 14 = true := by kernel_rfl
theorem sb_71_5_15 : hardB op_71_5 ((((((((((((((((Array.replicate 15 false).setIfInBounds 0 true).setIfInBounds 1 true).setIfInBounds 2 true).setIfInBounds 3 true).setIfInBounds 4 true).setIfInBounds 5 true).setIfInBounds 6 true).setIfInBounds 7 true).setIfInBounds 8 true).setIfInBounds 9 true).setIfInBounds 10 true).setIfInBounds 11 true).setIfInBounds 12 true).setIfInBounds 13 true).setIfInBounds 14 true) [] = true := by kernel_rfl
/- api.Plain -/
def m71_w1 (n : Nat) (l : (List File)) (mm : Nat) : (List File) → Int → Option ((List File) × Int) := it2 (fun lp1 l1 c1 =>
cond (decide (c1 < (l.length : Int))) (
Option.bind (ixL l c1) fun x1 =>
Option.bind (ixL l c1) fun x2 =>
Option.bind (apd l1 ({ File.zero with path := x1.path, data := x2.data })) fun l3 =>
lp1 l3 (wi (c1 + 1))) (
some (l1, c1))) mm
def m71 (n : Nat) (l : (List File)) : Option ((List File)) :=
ob2 (m71_w1 n l n ([] : List File) 0) fun l2 c2 =>
some l2
theorem t71 {n : Nat} {C : List Chunk} {rl1 : List File} {v1 : Value} {l : (List File)} (hr1 : Rd rFile C v1 l)  (hm : m71 n l = some rl1) : Trip Tryz.prog 71 #[v1] ([] ++ [C]) (fun u S' => ∃ (ev1 : Value), ∃ (eg1 : List Chunk), ev1 = u ∧ S' = [eg1] ++ [C] ∧ Own rFile ev1 rl1 eg1) := by
  refine fn_entry (args := [v1]) Tryz.func71 rfl Tryz.ntmps71 rfl (fun w0 => ?_)
  refine c_seq ?_
  refine c_region ?_
  have ho1 : Own rFile (.slice none 0 0) [] [] := Own.nil
  refine o_emp ?_
  refine o_L (y_assign rfl) rfl rfl ?_
  refine o_nil0 rfl ?_
  refine c_seq ?_
  refine c_region ?_
  have ho2 : Own rFile (.slice none 0 0) [] [] := Own.nil
  refine o_emp ?_
  refine o_L (y_assign rfl) rfl rfl ?_
  refine o_nil0 rfl ?_
  refine c_seq ?_
  refine c_seq ?_
  refine c_region ?_
  refine o_L (y_assign rfl) rfl rfl ?_
  refine o_nil0 rfl ?_
  obtain ⟨l2, c2, hj1, hm⟩ := bd2 hm
  refine c_joinP (n := 1) (fun sh G => ∃ (v3 : Value), ∃ (g2 : List Chunk), sh = [(3, v3), (4, .int .i64 c2)] ∧ G = [g2] ∧ Own rFile v3 l2 g2) (s_take (s_skip (s_take s_nil))) (.s .z) (fun _ _ h => h) ?_ ?_
  · skip
    refine c_block ?_
    refine c_loopP (n := 1) (fun mm sh G => ∃ (l1 : List File), ∃ (c1 : Int), ∃ (v2 : Value), ∃ (g1 : List Chunk), sh = [(3, v2), (4, .int .i64 c1)] ∧ G = [g1] ∧ m71_w1 n l mm l1 c1 = some (l2, c2) ∧ Own rFile v2 l1 g1) n (s_take (s_skip (s_take s_nil))) (.s .z) ⟨_, _, ⟨_, _, (.slice none 0 0), _, rfl, rfl, hj1, ho2⟩, ⟨rfl, rfl, trivial⟩, _, (s_take (s_skip (s_take s_nil)))⟩ ?_
    rintro mm sh G ⟨l1, c1, v2, g1, rfl, rfl, hm, ho3⟩
    obtain ⟨mm1, rfl, hm⟩ := it2_s hm
    refine c_seq ?_
    refine c_seq ?_
    refine c_region ?_
    refine o_T (y_move rfl) rfl ?_
    refine o_T (y_move rfl) rfl ?_
    refine o_T (y_lenR hr1 Tryz.underlying57 rfl) rfl ?_
    refine o_T (y_lss rfl rfl) rfl ?_
    refine o_nil1 8 rfl rfl ?_
    refine c_cond rfl (fun h1 => ?_) (fun h1 => ?_)
    · have hm := cd_t h1 hm
      refine c_skip ?_
      refine c_seq ?_
      refine c_block ?_
      refine c_draw #[true, true, true, true, true, true, true, true, true, true, true, true, true, false, true] rfl (n := 15) rfl ?_
      refine d_T 0 rfl sb_71_5_0 rfl (y_move rfl) rfl ?_
      refine d_T 1 rfl sb_71_5_1 rfl (y_move rfl) rfl ?_
      refine d_T 2 rfl sb_71_5_2 rfl (y_move rfl) rfl ?_
      obtain ⟨x1, hx1, hm⟩ := bd hm
      obtain ⟨b1, w1, cs1, y1, z1, vs1, hc1, ha1, hr2, hy1⟩ := hr1.ix hx1
      obtain rfl : vs1 = File.enc x1 := hr2
      refine d_T 3 rfl sb_71_5_3 rfl (hy1 sl_57 rfl rfl rfl) rfl ?_
      refine d_T 4 rfl sb_71_5_4 rfl (y_fa fl_71_0 rfl) rfl ?_
      refine d_ld 5 rfl sb_71_5_5 one_9 rfl (fun x hx => hx) (ms (mg hc1)) (At.getA (ha1.comp File.a_path)) rfl ?_
      refine d_T 6 rfl sb_71_5_6 rfl (y_move rfl) rfl ?_
      refine d_T 7 rfl sb_71_5_7 rfl (y_move rfl) rfl ?_
      obtain ⟨x2, hx2, hm⟩ := bd hm
      obtain ⟨b2, w2, cs2, y2, z2, vs2, hc2, ha2, hr3, hy2⟩ := hr1.ix hx2
      obtain rfl : vs2 = File.enc x2 := hr3
      refine d_T 8 rfl sb_71_5_8 rfl (hy2 sl_57 rfl rfl rfl) rfl ?_
      refine d_T 9 rfl sb_71_5_9 rfl (y_fa fl_71_1 rfl) rfl ?_
      refine d_ld 10 rfl sb_71_5_10 one_9 rfl (fun x hx => hx) (ms (mg hc2)) (At.getA (ha2.comp File.a_data)) rfl ?_
      refine d_T 11 rfl sb_71_5_11 rfl (y_build st_71 rfl (fbU rfl File.u_path rfl rfl (fbU rfl File.u_data rfl rfl fbU0))) rfl ?_
      refine d_hard 12 rfl sb_71_5_12 ?_
      refine o_bs1 sz_57 rfl rfl rfl rfl rfl rfl (fun b3 => ?_)
      refine o_stop (fun _ => (fun x hx => (ms hx))) ?_
      refine d_hard 13 rfl sb_71_5_13 ?_
      obtain ⟨l3, hx3, hm⟩ := bd hm
      refine o_appR (R := rFile) (a := ({ File.zero with path := x1.path, data := x2.data })) sz_57 rfl rfl rfl rfl ho3 rfl hx3 (Sel.e (s_get (ks k0) (s_take s_nil))) rfl (fun v4 g3 ho5 => ?_)
      refine o_stop (fun h => nomatch h) ?_
      refine d_L 14 rfl sb_71_5_14 rfl (y_assign rfl) rfl rfl ?_
      refine d_nil0 sb_71_5_15 rfl ?_
      refine c_region ?_
      refine o_T (y_move rfl) rfl ?_
      refine o_T (y_add rfl rfl rfl) rfl ?_
      refine o_L (y_assign rfl) rfl rfl ?_
      refine o_nil0 rfl ?_
      exact ⟨mm1, Nat.lt_succ_self _, _, _, ⟨_, _, v4, _, rfl, rfl, hm, ho5⟩, ⟨rfl, rfl, trivial⟩, ⟨rfl, rfl⟩, _, (s_take (s_take s_nil))⟩
    · have hm := cd_f h1 hm
      refine c_exit ?_
      obtain ⟨rfl, rfl⟩ := pr2 hm
      exact ⟨_, _, ⟨v2, _, rfl, rfl, ho3⟩, ⟨rfl, rfl, trivial⟩, ⟨rfl, rfl⟩, _, (s_take (s_take s_nil))⟩
  · rintro sh G ⟨v3, g2, rfl, rfl, ho4⟩
    refine c_seq ?_
    refine c_region ?_
    refine o_T (y_move rfl) rfl ?_
    refine o_L (y_assign rfl) rfl rfl ?_
    refine o_nil0 rfl ?_
    refine c_ret ?_
    obtain rfl := p1 hm
    refine fun aX wX heX hsX => ret1 Tryz.results71 heX rfl (s_take (s_take s_nil)) ?_
    exact ⟨v3, _, rfl, rfl, ho4⟩
end Go.Proofs.Qxb6500350aGreat
