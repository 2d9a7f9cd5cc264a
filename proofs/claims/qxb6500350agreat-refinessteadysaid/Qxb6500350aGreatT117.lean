/- MADE BY PROGRAM (tools350/mir.py): mirror and walk. -/
import Derived.Test.Qxb6500350aGreatF2
set_option linter.unusedVariables false
set_option linter.unusedSimpArgs false
set_option maxRecDepth 20000
set_option maxHeartbeats 4000000
namespace Go.Proofs.Qxb6500350aGreat
open Go.Eng

def op_117_6 : Array Go.Oper := #[{ dst := some 14, op := Go.Op.move (Go.Operand.tmp 6), type := 4, pos := "check.go:223", after := #[], guard := none }, { dst := some 15, op := Go.Op.unOp Go.UnOp.not 4 (Go.Operand.tmp 14), type := 4, pos := "check.go:223", after := #[{ on := 0, ground := Go.Ground.data }], guard := none }, { dst := some 16, op := Go.Op.move (Go.Operand.tmp 15), type := 4, pos := "check.go:223", after := #[{ on := 1, ground := Go.Ground.data }], guard := none }, { dst := some 17, op := Go.Op.fieldAddr 71 (Go.Operand.tmp 3) 0, type := 0, pos := "check.go:223", after := #[{ on := 2, ground := Go.Ground.guard }], guard := some (2, true) }, { dst := some 18, op := Go.Op.load 9 (Go.Operand.tmp 17), type := 9, pos := "check.go:223", after := #[{ on := 3, ground := Go.Ground.data }, { on := 2, ground := Go.Ground.guard }], guard := some (2, true) }, { dst := some 19, op := Go.Op.move (Go.Operand.tmp 0), type := 57, pos := "check.go:223", after := #[{ on := 2, ground := Go.Ground.guard }], guard := some (2, true) }, { dst := some 20, op := Go.Op.move (Go.Operand.tmp 7), type := 3, pos := "check.go:223", after := #[{ on := 2, ground := Go.Ground.guard }], guard := some (2, true) }, { dst := some 21, op := Go.Op.indexAddr 57 (Go.Operand.tmp 19) (Go.Operand.tmp 20), type := 0, pos := "check.go:223", after := #[{ on := 5, ground := Go.Ground.data }, { on := 6, ground := Go.Ground.data }, { on := 2, ground := Go.Ground.guard }], guard := some (2, true) }, { dst := some 22, op := Go.Op.fieldAddr 71 (Go.Operand.tmp 21) 0, type := 0, pos := "check.go:223", after := #[{ on := 7, ground := Go.Ground.data }, { on := 2, ground := Go.Ground.guard }], guard := some (2, true) }, { dst := some 23, op := Go.Op.load 9 (Go.Operand.tmp 22), type := 9, pos := "check.go:223", after := #[{ on := 8, ground := Go.Ground.data }, { on := 2, ground := Go.Ground.guard }], guard := some (2, true) }, { dst := some 24, op := Go.Op.binOp Go.BinOp.leq 9 (Go.Operand.tmp 18) (Go.Operand.tmp 23) 9, type := 4, pos := "check.go:223", after := #[{ on := 4, ground := Go.Ground.data }, { on := 9, ground := Go.Ground.data }, { on := 2, ground := Go.Ground.guard }], guard := some (2, true) }, { dst := some 25, op := Go.Op.pick (Go.Operand.tmp 16) (Go.Operand.tmp 24) (Go.Operand.const (Go.Value.bool false)), type := 4, pos := "check.go:223", after := #[{ on := 2, ground := Go.Ground.data }, { on := 10, ground := Go.Ground.data }], guard := none }]
def op_117_9 : Array Go.Oper := #[{ dst := some 30, op := Go.Op.fieldAddr 71 (Go.Operand.tmp 3) 0, type := 0, pos := "check.go:226", after := #[], guard := none }, { dst := some 31, op := Go.Op.load 9 (Go.Operand.tmp 30), type := 9, pos := "check.go:226", after := #[{ on := 0, ground := Go.Ground.data }], guard := none }, { dst := some 32, op := Go.Op.move (Go.Operand.tmp 0), type := 57, pos := "check.go:226", after := #[], guard := none }, { dst := some 33, op := Go.Op.move (Go.Operand.tmp 7), type := 3, pos := "check.go:226", after := #[], guard := none }, { dst := some 34, op := Go.Op.indexAddr 57 (Go.Operand.tmp 32) (Go.Operand.tmp 33), type := 0, pos := "check.go:226", after := #[{ on := 2, ground := Go.Ground.data }, { on := 3, ground := Go.Ground.data }], guard := none }, { dst := some 35, op := Go.Op.fieldAddr 71 (Go.Operand.tmp 34) 0, type := 0, pos := "check.go:226", after := #[{ on := 4, ground := Go.Ground.data }], guard := none }, { dst := some 36, op := Go.Op.load 9 (Go.Operand.tmp 35), type := 9, pos := "check.go:226", after := #[{ on := 5, ground := Go.Ground.data }], guard := none }, { dst := some 37, op := Go.Op.binOp Go.BinOp.eql 9 (Go.Operand.tmp 31) (Go.Operand.tmp 36) 9, type := 4, pos := "check.go:226", after := #[{ on := 1, ground := Go.Ground.data }, { on := 6, ground := Go.Ground.data }], guard := none }]
theorem sb_117_6_0 : softB op_117_6 #[true, true, true, true, true, true, true, true, true, true, true, true] (Array.replicate 12 false) 0 = true := by kernel_rfl
theorem sb_117_6_1 : softB op_117_6 #[true, true, true, true, true, true, true, true, true, true, true, true] ((Array.replicate 12 false).setIfInBounds 0 true) 1 = true := by kernel_rfl
theorem sb_117_6_2 : softB op_117_6 #[true, true, true, true, true, true, true, true, true, true, true, true] (((Array.replicate 12 false).setIfInBounds 0 true).setIfInBounds 1 true) 2 = true := by kernel_rfl
theorem sb_117_6_3 : softB op_117_6 #[true, true, true, true, true, true, true, true, true, true, true, true] ((((Array.replicate 12 false).setIfInBounds 0 true).setIfInBounds 1 true).setIfInBounds 2 true) 3 = true := by kernel_rfl
theorem sb_117_6_4 : softB op_117_6 #[true, true, true, true, true, true, true, true, true, true, true, true] (((((Array.replicate 12 false).setIfInBounds 0 true).setIfInBounds 1 true).setIfInBounds 2 true).setIfInBounds 3 true) 4 = true := by kernel_rfl
theorem sb_117_6_5 : softB op_117_6 #[true, true, true, true, true, true, true, true, true, true, true, true] ((((((Array.replicate 12 false).setIfInBounds 0 true).setIfInBounds 1 true).setIfInBounds 2 true).setIfInBounds 3 true).setIfInBounds 4 true) 5 = true := by kernel_rfl
theorem sb_117_6_6 : softB op_117_6 #[true, true, true, true, true, true, true, true, true, true, true, true] (((((((Array.replicate 12 false).setIfInBounds 0 true).setIfInBounds 1 true).setIfInBounds 2 true).setIfInBounds 3 true).setIfInBounds 4 true).setIfInBounds 5 true) 6 = true := by kernel_rfl
theorem sb_117_6_7 : softB op_117_6 #[true, true, true, true, true, true, true, true, true, true, true, true] ((((((((Array.replicate 12 false).setIfInBounds 0 true).setIfInBounds 1 true).setIfInBounds 2 true).setIfInBounds 3 true).setIfInBounds 4 true).setIfInBounds 5 true).setIfInBounds 6 true) 7 = true := by kernel_rfl
theorem sb_117_6_8 : softB op_117_6 #[true, true, true, true, true, true, true, true, true, true, true, true] (((((((((Array.replicate 12 false).setIfInBounds 0 true).setIfInBounds 1 true).setIfInBounds 2 true).setIfInBounds 3 true).setIfInBounds 4 true).setIfInBounds 5 true).setIfInBounds 6 true).setIfInBounds 7 true) 8 = true := by kernel_rfl
theorem sb_117_6_9 : softB op_117_6 #[true, true, true, true, true, true, true, true, true, true, true, true] ((((((((((Array.replicate 12 false).setIfInBounds 0 true).setIfInBounds 1 true).setIfInBounds 2 true).setIfInBounds 3 true).setIfInBounds 4 true).setIfInBounds 5 true).setIfInBounds 6 true).setIfInBounds 7 true).setIfInBounds 8 true) 9 = true := by kernel_rfl
theorem sb_117_6_10 : softB op_117_6 #[true, true, true, true, true, true, true, true, true, true, true, true] (((((((((((Array.replicate 12 false).setIfInBounds 0 true).setIfInBounds 1 true).setIfInBounds 2 true).setIfInBounds 3 true).setIfInBounds 4 true).setIfInBounds 5 true).setIfInBounds 6 true).setIfInBounds 7 true).setIfInBounds 8 true).setIfInBounds 9 true) 10 = true := by kernel_rfl
theorem sb_117_6_11 : softB op_117_6 #[true, true, true, true, true, true, true, true, true, true, true, true] ((((((((((((Array.replicate 12 false).setIfInBounds 0 true).setIfInBounds 1 true).setIfInBounds 2 true).setIfInBounds 3 true).setIfInBounds 4 true).setIfInBounds 5 true).setIfInBounds 6 true).setIfInBounds 7 true).setIfInBounds 8 true).setIfInBounds 9 true).setIfInBounds 10 true) 11 = true := by kernel_rfl
theorem sb_117_6_12 : hardB op_117_6 (((((((((((((Array.replicate 12 false).setIfInBounds 0 true).setIfInBounds 1 true).setIfInBounds 2 true).setIfInBounds 3 true).setIfInBounds 4 true).setIfInBounds 5 true).setIfInBounds 6 true).setIfInBounds 7 true).setIfInBounds 8 true).setIfInBounds 9 true).setIfInBounds 10 true).setIfInBounds 11 true) [] = true := by kernel_rfl
theorem sb_117_9_0 : softB op_117_9 #[true, true, true, true, true, true, true, true] (Array.replicate 8 false) 0 = true := by kernel_rfl
theorem sb_117_9_1 : softB op_117_9 #[true, true, true, true, true, true, true, true] ((Array.replicate 8 false).setIfInBounds 0 true) 1 = true := by kernel_rfl
theorem sb_117_9_2 : softB op_117_9 #[true, true, true, true, true, true, true, true] (((Array.replicate 8 false).setIfInBounds 0 true).setIfInBounds 1 true) 2 = true := by kernel_rfl
theorem sb_117_9_3 : softB op_117_9 #[true, true, true, true, true, true, true, true] ((((Array.replicate 8 false).setIfInBounds 0 true).setIfInBounds 1 true).setIfInBounds 2 true) 3 = true := by kernel_rfl
theorem sb_117_9_4 : softB op_117_9 #[true, true, true, true, true, true, true, true] (((((Array.replicate 8 false).setIfInBounds 0 true).setIfInBounds 1 true).setIfInBounds 2 true).setIfInBounds 3 true) 4 = true := by kernel_rfl
theorem sb_117_9_5 : softB op_117_9 #[true, true, true, true, true, true, true, true] ((((((Array.replicate 8 false).setIfInBounds 0 true).setIfInBounds 1 true).setIfInBounds 2 true).setIfInBounds 3 true).setIfInBounds 4 true) 5 = true := by kernel_rfl
theorem sb_117_9_6 : softB op_117_9 #[true, true, true, true, true, true, true, true] (((((((Array.replicate 8 false).setIfInBounds 0 true).setIfInBounds 1 true).setIfInBounds 2 true).setIfInBounds 3 true).setIfInBounds 4 true).setIfInBounds 5 true) 6 = true := by kernel_rfl
theorem sb_117_9_7 : softB op_117_9 #[true, true, true, true, true, true, true, true] ((((((((Array.replicate 8 false).setIfInBounds 0 true).setIfInBounds 1 true).setIfInBounds 2 true).setIfInBounds 3 true).setIfInBounds 4 true).setIfInBounds 5 true).setIfInBounds 6 true) 7 = true := by kernel_rfl
theorem sb_117_9_8 : hardB op_117_9 (((((((((Array.replicate 8 false).setIfInBounds 0 true).setIfInBounds 1 true).setIfInBounds 2 true).setIfInBounds 3 true).setIfInBounds 4 true).setIfInBounds 5 true).setIfInBounds 6 true).setIfInBounds 7 true) [] = true := by kernel_rfl
/- api.With -/
def m117_w1 (n : Nat) (l : (List File)) (f : File) (mm : Nat) : (List File) → Bool → Int → Option ((List File) × Bool × Int) := it3 (fun lp1 l1 c1 c2 =>
cond (decide (c2 < (l.length : Int))) (
ob1 (cond (!c1) (Option.bind (ixL l c2) fun x1 =>
some ((sLt f.path x1.path || decide (f.path = x1.path)))) (some (false))) fun c5 =>
cond c5 (
Option.bind (apd l1 f) fun l3 =>
Option.bind (ixL l c2) fun x2 =>
cond (decide (f.path = x2.path)) (
lp1 l3 true (wi (c2 + 1))) (
Option.bind (ixL l c2) fun x3 =>
Option.bind (apd l3 x3) fun l4 =>
lp1 l4 true (wi (c2 + 1)))) (
Option.bind (ixL l c2) fun x4 =>
Option.bind (apd l1 x4) fun l5 =>
lp1 l5 c1 (wi (c2 + 1)))) (
some (l1, c1, c2))) mm
def m117 (n : Nat) (l : (List File)) (f : File) : Option ((List File)) :=
ob3 (m117_w1 n l f n ([] : List File) false 0) fun l2 c3 c4 =>
cond (!c3) (
Option.bind (apd l2 f) fun l6 =>
some l6) (
some l2)
theorem t117 {n : Nat} {C : List Chunk} {rl1 : List File} {v1 : Value} {l : (List File)} {f : File} (hr1 : Rd rFile C v1 l)  (hm : m117 n l f = some rl1) : Trip Tryz.prog 117 #[v1, .agg (File.enc f).toArray] ([] ++ [C]) (fun u S' => ∃ (ev1 : Value), ∃ (eg1 : List Chunk), ev1 = u ∧ S' = [eg1] ++ [C] ∧ Own rFile ev1 rl1 eg1) := by
  refine fn_entry (args := [v1, .agg (File.enc f).toArray]) Tryz.func117 rfl Tryz.ntmps117 rfl (fun w0 => ?_)
  refine c_seq ?_
  refine c_region ?_
  refine o_box rfl rfl rfl rfl (fun b1 => ?_)
  have ho1 : Own rFile (.slice none 0 0) [] [] := Own.nil
  refine o_emp ?_
  refine o_L (y_assign rfl) rfl rfl ?_
  refine o_nil0 rfl ?_
  refine c_seq ?_
  refine c_region ?_
  have ho2 : Own rFile (.slice none 0 0) [] [] := Own.nil
  refine o_emp ?_
  refine o_L (y_assign rfl) rfl rfl ?_
  refine o_nil0 rfl ?_
  refine c_seq ?_
  refine c_region ?_
  refine o_L (y_assign rfl) rfl rfl ?_
  refine o_nil0 rfl ?_
  refine c_seq ?_
  refine c_seq ?_
  refine c_region ?_
  refine o_L (y_assign rfl) rfl rfl ?_
  refine o_nil0 rfl ?_
  obtain ⟨l2, c3, c4, hj1, hm⟩ := bd3 hm
  refine c_joinP (n := 1) (fun sh G => ∃ (v3 : Value), ∃ (g2 : List Chunk), sh = [(5, v3), (6, .bool c3), (7, .int .i64 c4)] ∧ G = [g2] ∧ Own rFile v3 l2 g2) (s_take (s_skip (s_take (s_take s_nil)))) (.s .z) (fun _ _ h => h) ?_ ?_
  · skip
    refine c_block ?_
    refine c_loopP (n := 1) (fun mm sh G => ∃ (l1 : List File), ∃ (c1 : Bool), ∃ (c2 : Int), ∃ (v2 : Value), ∃ (g1 : List Chunk), sh = [(5, v2), (6, .bool c1), (7, .int .i64 c2)] ∧ G = [g1] ∧ m117_w1 n l f mm l1 c1 c2 = some (l2, c3, c4) ∧ Own rFile v2 l1 g1) n (s_take (s_skip (s_take (s_take s_nil)))) (.s .z) ⟨_, _, ⟨_, _, _, (.slice none 0 0), _, rfl, rfl, hj1, ho2⟩, ⟨rfl, rfl, rfl, trivial⟩, _, (s_take (s_skip (s_take (s_take s_nil))))⟩ ?_
    rintro mm sh G ⟨l1, c1, c2, v2, g1, rfl, rfl, hm, ho3⟩
    obtain ⟨mm1, rfl, hm⟩ := it3_s hm
    refine c_seq ?_
    refine c_seq ?_
    refine c_region ?_
    refine o_T (y_move rfl) rfl ?_
    refine o_T (y_move rfl) rfl ?_
    refine o_T (y_lenR hr1 Tryz.underlying57 rfl) rfl ?_
    refine o_T (y_lss rfl rfl) rfl ?_
    refine o_nil1 11 rfl rfl ?_
    refine c_cond rfl (fun h1 => ?_) (fun h1 => ?_)
    · have hm := cd_t h1 hm
      refine c_skip ?_
      refine c_seq ?_
      refine c_block ?_
      refine c_seq ?_
      refine c_seq ?_
      obtain ⟨c5, hj2, hm⟩ := bd1 hm
      refine c_joinP (n := 0) (fun sh G => sh = [(25, .bool c5)] ∧ G = []) Sel.all' .z (fun _ _ h => h) ?_ ?_
      · have hm := hj2
        refine c_draw #[true, true, true, true, true, true, true, true, true, true, true, true] rfl (n := 12) rfl ?_
        refine d_T 0 rfl sb_117_6_0 rfl (y_move rfl) rfl ?_
        refine d_T 1 rfl sb_117_6_1 rfl (y_not rfl) rfl ?_
        refine d_T 2 rfl sb_117_6_2 rfl (y_move rfl) rfl ?_
        refine d_split 16 rfl (fun h2 => ?_) (fun h2 => ?_)
        · have hm := cd_t h2 hm
          refine d_Tg 3 rfl rfl rfl rfl sb_117_6_3 rfl (y_fa fl_71_0 rfl) rfl ?_
          refine d_ldt 4 rfl rfl rfl rfl sb_117_6_4 one_9 rfl (fun x hx => hx) (ms m0) (At.got (At.refl.comp File.a_path)) rfl ?_
          refine d_Tg 5 rfl rfl rfl rfl sb_117_6_5 rfl (y_move rfl) rfl ?_
          refine d_Tg 6 rfl rfl rfl rfl sb_117_6_6 rfl (y_move rfl) rfl ?_
          obtain ⟨x1, hx1, hm⟩ := bd hm
          obtain ⟨b2, w1, cs1, y1, z1, vs1, hc1, ha1, hr2, hy1⟩ := hr1.ix hx1
          obtain rfl : vs1 = File.enc x1 := hr2
          refine d_Tg 7 rfl rfl rfl rfl sb_117_6_7 rfl (hy1 sl_57 rfl rfl rfl) rfl ?_
          refine d_Tg 8 rfl rfl rfl rfl sb_117_6_8 rfl (y_fa fl_71_0 rfl) rfl ?_
          refine d_ldt 9 rfl rfl rfl rfl sb_117_6_9 one_9 rfl (fun x hx => hx) (ms (ms (mg hc1))) (At.getA (ha1.comp File.a_path)) rfl ?_
          refine d_Tg 10 rfl rfl rfl rfl sb_117_6_10 rfl (y_sle rfl rfl) rfl ?_
          refine d_T 11 rfl sb_117_6_11 rfl (y_pickT rfl rfl) rfl ?_
          refine d_nil1 25 sb_117_6_12 rfl rfl ?_
          obtain rfl := p1 hm
          exact ⟨_, _, ⟨rfl, rfl⟩, ⟨rfl, trivial⟩, ⟨rfl, rfl⟩, _, (s_take (s_take (s_take s_nil)))⟩
        · have hm := cd_f h2 hm
          refine d_pass 3 rfl rfl rfl rfl rfl sb_117_6_3 (fun x hx => hx) rfl ?_
          refine d_pass 4 rfl rfl rfl rfl rfl sb_117_6_4 (fun x hx => hx) rfl ?_
          refine d_pass 5 rfl rfl rfl rfl rfl sb_117_6_5 (fun x hx => hx) rfl ?_
          refine d_pass 6 rfl rfl rfl rfl rfl sb_117_6_6 (fun x hx => hx) rfl ?_
          refine d_pass 7 rfl rfl rfl rfl rfl sb_117_6_7 (fun x hx => hx) rfl ?_
          refine d_pass 8 rfl rfl rfl rfl rfl sb_117_6_8 (fun x hx => hx) rfl ?_
          refine d_pass 9 rfl rfl rfl rfl rfl sb_117_6_9 (fun x hx => hx) rfl ?_
          refine d_pass 10 rfl rfl rfl rfl rfl sb_117_6_10 (fun x hx => hx) rfl ?_
          refine d_T 11 rfl sb_117_6_11 rfl (y_pickF rfl rfl) rfl ?_
          refine d_nil1 25 sb_117_6_12 rfl rfl ?_
          obtain rfl := p1 hm
          exact ⟨_, _, ⟨rfl, rfl⟩, ⟨rfl, trivial⟩, ⟨rfl, rfl⟩, _, (s_take (s_take (s_take s_nil)))⟩
      · rintro sh G ⟨rfl, rfl⟩
        refine c_cond rfl (fun h3 => ?_) (fun h3 => ?_)
        · have hm := cd_t h3 hm
          refine c_seq ?_
          refine c_region ?_
          refine o_T (y_move rfl) rfl ?_
          refine o_lda ag_71 rfl (ms m0) (At.exs At.refl (File.len _)) (At.fits At.refl (File.len _)) rfl ?_
          refine o_bs1 sz_57 rfl rfl rfl rfl rfl rfl (fun b3 => ?_)
          obtain ⟨l3, hx2, hm⟩ := bd hm
          refine o_appR (R := rFile) (a := f) sz_57 rfl rfl rfl rfl ho3 rfl hx2 (Sel.e (s_get (ks k0) (s_take s_nil))) rfl (fun v4 g3 ho5 => ?_)
          refine o_L (y_assign rfl) rfl rfl ?_
          refine o_nil0 rfl ?_
          refine c_seq ?_
          refine c_region ?_
          refine o_L (y_assign rfl) rfl rfl ?_
          refine o_nil0 rfl ?_
          refine c_seq ?_
          refine c_draw #[true, true, true, true, true, true, true, true] rfl (n := 8) rfl ?_
          refine d_T 0 rfl sb_117_9_0 rfl (y_fa fl_71_0 rfl) rfl ?_
          refine d_ld 1 rfl sb_117_9_1 one_9 rfl (fun x hx => hx) (ms m0) (At.got (At.refl.comp File.a_path)) rfl ?_
          refine d_T 2 rfl sb_117_9_2 rfl (y_move rfl) rfl ?_
          refine d_T 3 rfl sb_117_9_3 rfl (y_move rfl) rfl ?_
          obtain ⟨x2, hx3, hm⟩ := bd hm
          obtain ⟨b4, w2, cs2, y2, z2, vs2, hc2, ha2, hr3, hy2⟩ := hr1.ix hx3
          obtain rfl : vs2 = File.enc x2 := hr3
          refine d_T 4 rfl sb_117_9_4 rfl (hy2 sl_57 rfl rfl rfl) rfl ?_
          refine d_T 5 rfl sb_117_9_5 rfl (y_fa fl_71_0 rfl) rfl ?_
          refine d_ld 6 rfl sb_117_9_6 one_9 rfl (fun x hx => hx) (ms (ms (mg hc2))) (At.getA (ha2.comp File.a_path)) rfl ?_
          refine d_T 7 rfl sb_117_9_7 rfl (y_seq rfl rfl) rfl ?_
          refine d_nil1 37 sb_117_9_8 rfl rfl ?_
          refine c_cond rfl (fun h4 => ?_) (fun h4 => ?_)
          · have hm := cd_t h4 hm
            refine c_exit ?_
            refine c_region ?_
            refine o_T (y_move rfl) rfl ?_
            refine o_T (y_add rfl rfl rfl) rfl ?_
            refine o_L (y_assign rfl) rfl rfl ?_
            refine o_nil0 rfl ?_
            exact ⟨mm1, Nat.lt_succ_self _, _, _, ⟨_, _, _, v4, _, rfl, rfl, hm, ho5⟩, ⟨rfl, rfl, rfl, trivial⟩, ⟨rfl, rfl⟩, _, (s_take (s_take (s_take s_nil)))⟩
          · have hm := cd_f h4 hm
            refine c_skip ?_
            refine c_region ?_
            refine o_T (y_move rfl) rfl ?_
            refine o_T (y_move rfl) rfl ?_
            refine o_T (y_move rfl) rfl ?_
            obtain ⟨x3, hx4, hm⟩ := bd hm
            obtain ⟨b5, w3, cs3, y3, z3, vs3, hc3, ha3, hr4, hy3⟩ := hr1.ix hx4
            obtain rfl : vs3 = File.enc x3 := hr4
            refine o_T (hy3 sl_57 rfl rfl rfl) rfl ?_
            refine o_lda ag_71 rfl (ms (ms (mg hc3))) (At.ext (ha3) (File.len _)) (At.fit (ha3) (File.len _)) rfl ?_
            refine o_bs1 sz_57 rfl rfl rfl rfl rfl rfl (fun b6 => ?_)
            obtain ⟨l4, hx5, hm⟩ := bd hm
            refine o_appR (R := rFile) (a := x3) sz_57 rfl rfl rfl rfl ho5 rfl hx5 (Sel.e (s_get (ks k0) (s_take s_nil))) rfl (fun v5 g4 ho6 => ?_)
            refine o_L (y_assign rfl) rfl rfl ?_
            refine o_nil0 rfl ?_
            refine c_region ?_
            refine o_T (y_move rfl) rfl ?_
            refine o_T (y_add rfl rfl rfl) rfl ?_
            refine o_L (y_assign rfl) rfl rfl ?_
            refine o_nil0 rfl ?_
            exact ⟨mm1, Nat.lt_succ_self _, _, _, ⟨_, _, _, v5, _, rfl, rfl, hm, ho6⟩, ⟨rfl, rfl, rfl, trivial⟩, ⟨rfl, rfl⟩, _, (s_take (s_take (s_take s_nil)))⟩
        · have hm := cd_f h3 hm
          refine c_skip ?_
          refine c_region ?_
          refine o_T (y_move rfl) rfl ?_
          refine o_T (y_move rfl) rfl ?_
          refine o_T (y_move rfl) rfl ?_
          obtain ⟨x4, hx6, hm⟩ := bd hm
          obtain ⟨b7, w4, cs4, y4, z4, vs4, hc4, ha4, hr5, hy4⟩ := hr1.ix hx6
          obtain rfl : vs4 = File.enc x4 := hr5
          refine o_T (hy4 sl_57 rfl rfl rfl) rfl ?_
          refine o_lda ag_71 rfl (ms (ms (mg hc4))) (At.ext (ha4) (File.len _)) (At.fit (ha4) (File.len _)) rfl ?_
          refine o_bs1 sz_57 rfl rfl rfl rfl rfl rfl (fun b8 => ?_)
          obtain ⟨l5, hx7, hm⟩ := bd hm
          refine o_appR (R := rFile) (a := x4) sz_57 rfl rfl rfl rfl ho3 rfl hx7 (Sel.e (s_get (ks k0) (s_take s_nil))) rfl (fun v6 g5 ho7 => ?_)
          refine o_L (y_assign rfl) rfl rfl ?_
          refine o_nil0 rfl ?_
          refine c_region ?_
          refine o_T (y_move rfl) rfl ?_
          refine o_T (y_add rfl rfl rfl) rfl ?_
          refine o_L (y_assign rfl) rfl rfl ?_
          refine o_nil0 rfl ?_
          exact ⟨mm1, Nat.lt_succ_self _, _, _, ⟨_, _, _, v6, _, rfl, rfl, hm, ho7⟩, ⟨rfl, rfl, rfl, trivial⟩, ⟨rfl, rfl⟩, _, (s_take (s_take (s_take s_nil)))⟩
    · have hm := cd_f h1 hm
      refine c_exit ?_
      obtain ⟨rfl, rfl, rfl⟩ := pr3 hm
      exact ⟨_, _, ⟨v2, _, rfl, rfl, ho3⟩, ⟨rfl, rfl, rfl, trivial⟩, ⟨rfl, rfl⟩, _, (s_take (s_take (s_take s_nil)))⟩
  · rintro sh G ⟨v3, g2, rfl, rfl, ho4⟩
    refine c_seq ?_
    refine c_seq ?_
    refine c_region ?_
    refine o_T (y_move rfl) rfl ?_
    refine o_T (y_not rfl) rfl ?_
    refine o_nil1 46 rfl rfl ?_
    refine c_cond rfl (fun h5 => ?_) (fun h5 => ?_)
    · have hm := cd_t h5 hm
      refine c_region ?_
      refine o_T (y_move rfl) rfl ?_
      refine o_lda ag_71 rfl (ms m0) (At.exs At.refl (File.len _)) (At.fits At.refl (File.len _)) rfl ?_
      refine o_bs1 sz_57 rfl rfl rfl rfl rfl rfl (fun b9 => ?_)
      obtain ⟨l6, hx8, hm⟩ := bd hm
      refine o_appR (R := rFile) (a := f) sz_57 rfl rfl rfl rfl ho4 rfl hx8 (Sel.e (s_get (ks k0) (s_take s_nil))) rfl (fun v7 g6 ho8 => ?_)
      refine o_L (y_assign rfl) rfl rfl ?_
      refine o_nil0 rfl ?_
      refine c_seq ?_
      refine c_region ?_
      refine o_T (y_move rfl) rfl ?_
      refine o_L (y_assign rfl) rfl rfl ?_
      refine o_nil0 rfl ?_
      refine c_ret ?_
      obtain rfl := p1 hm
      refine fun aX wX heX hsX => ret1 Tryz.results117 heX rfl (s_take (s_skip (s_take s_nil))) ?_
      exact ⟨v7, _, rfl, rfl, ho8⟩
    · have hm := cd_f h5 hm
      refine c_skip ?_
      refine c_seq ?_
      refine c_region ?_
      refine o_T (y_move rfl) rfl ?_
      refine o_L (y_assign rfl) rfl rfl ?_
      refine o_nil0 rfl ?_
      refine c_ret ?_
      obtain rfl := p1 hm
      refine fun aX wX heX hsX => ret1 Tryz.results117 heX rfl (s_take (s_skip (s_take s_nil))) ?_
      exact ⟨v3, _, rfl, rfl, ho4⟩
end Go.Proofs.Qxb6500350aGreat
