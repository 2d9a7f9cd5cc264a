/- MADE BY PROGRAM (tools350/mir.py): mirror and walk. -/
import Derived.Test.Qxb6500350aGreatF2
import Derived.Test.Qxb6500350aGreatT229
set_option linter.unusedVariables false
set_option linter.unusedSimpArgs false
set_option maxRecDepth 20000
set_option maxHeartbeats 4000000
namespace Go.Proofs.Qxb6500350aGreat
open Go.Eng

def op_152_7 : Array Go.Oper := #[{ dst := some 15, op := Go.Op.move (Go.Operand.tmp 0), type := 57, pos := "check.go:147", after := #[], guard := none }, { dst := some 16, op := Go.Op.move (Go.Operand.tmp 4), type := 3, pos := "check.go:147", after := #[], guard := none }, { dst := some 17, op := Go.Op.indexAddr 57 (Go.Operand.tmp 15) (Go.Operand.tmp 16), type := 0, pos := "check.go:147", after := #[{ on := 0, ground := Go.Ground.data }, { on := 1, ground := Go.Ground.data }], guard := none }, { dst := some 18, op := Go.Op.fieldAddr 71 (Go.Operand.tmp 17) 0, type := 0, pos := "check.go:147", after := #[{ on := 2, ground := Go.Ground.data }], guard := none }, { dst := some 19, op := Go.Op.load 9 (Go.Operand.tmp 18), type := 9, pos := "check.go:147", after := #[{ on := 3, ground := Go.Ground.data }], guard := none }, { dst := some 20, op := Go.Op.move (Go.Operand.tmp 0), type := 57, pos := "check.go:147", after := #[], guard := none }, { dst := some 21, op := Go.Op.move (Go.Operand.tmp 4), type := 3, pos := "check.go:147", after := #[], guard := none }, { dst := some 22, op := Go.Op.indexAddr 57 (Go.Operand.tmp 20) (Go.Operand.tmp 21), type := 0, pos := "check.go:147", after := #[{ on := 5, ground := Go.Ground.data }, { on := 6, ground := Go.Ground.data }], guard := none }, { dst := some 23, op := Go.Op.fieldAddr 71 (Go.Operand.tmp 22) 2, type := 0, pos := "check.go:147", after := #[{ on := 7, ground := Go.Ground.data }], guard := none }, { dst := some 24, op := Go.Op.load 3 (Go.Operand.tmp 23), type := 3, pos := "check.go:147", after := #[{ on := 8, ground := Go.Ground.data }], guard := none }, { dst := some 25, op := Go.Op.move (Go.Operand.tmp 0), type := 57, pos := "check.go:147", after := #[], guard := none }, { dst := some 26, op := Go.Op.move (Go.Operand.tmp 4), type := 3, pos := "check.go:147", after := #[], guard := none }, { dst := some 27, op := Go.Op.indexAddr 57 (Go.Operand.tmp 25) (Go.Operand.tmp 26), type := 0, pos := "check.go:147", after := #[{ on := 10, ground := Go.Ground.data }, { on := 11, ground := Go.Ground.data }], guard := none }, { dst := some 28, op := Go.Op.fieldAddr 71 (Go.Operand.tmp 27) 1, type := 0, pos := "check.go:147", after := #[{ on := 12, ground := Go.Ground.data }], guard := none }, { dst := some 29, op := Go.Op.load 9 (Go.Operand.tmp 28), type := 9, pos := "check.go:147", after := #[{ on := 13, ground := Go.Ground.data }], guard := none }, { dst := some 30, op := Go.Op.call { callee := Go.Callee.builtin Go.Builtin.len, args := #[Go.Operand.tmp 29], argTypes := #[9] }, type := 3, pos := "check.go:147", after := #[{ on := 14, ground := Go.Ground.data }], guard := none }, { dst := some 31, op := Go.Op.move (Go.Operand.tmp 3), type := 185, pos := "check.go:147", after := #[], guard := none }, { dst := some 32, op := Go.Op.call { callee := Go.Callee.value (Go.Operand.func 229), args := #[Go.Operand.tmp 19, Go.Operand.tmp 24, Go.Operand.tmp 30, Go.Operand.tmp 31], argTypes := #[9, 3, 3, 185] }, type := 73, pos := "check.go:147", after := #[{ on := 4, ground := Go.Ground.data }, { on := 9, ground := Go.Ground.data }, { on := 15, ground := Go.Ground.data }, { on := 16, ground := Go.Ground.data }], guard := none }, { dst := some 5, op := Go.Op.assign (Go.Operand.tmp 32), type := 73, pos := "check.go:147", after := #[{ on := 17, ground := Go.Ground.data }, { on := 17, ground := Go.Ground.chain }, { on := 0, ground := Go.Ground.phase }, { on := 1, ground := Go.Ground.phase }, { on := 2, ground := Go.Ground.phase }, { on := 3, ground := Go.Ground.phase }, { on := 4, ground := Go.Ground.phase }, { on := 5, ground := Go.Ground.phase }, { on := 6, ground := Go.Ground.phase }, { on := 7, ground := Go.Ground.phase }, { on := 8, ground := Go.Ground.phase }, { on := 9, ground := Go.Ground.phase }, { on := 10, ground := Go.Ground.phase }, { on := 11, ground := Go.Ground.phase }, { on := 12, ground := Go.Ground.phase }, { on := 13, ground := Go.Ground.phase }, { on := 14, ground := Go.Ground.phase }, { on := 15, ground := Go.Ground.phase }, { on := 16, ground := Go.Ground.phase }, { on := 17, ground := Go.Ground.phase }], guard := none }]
theorem sb_152_7_0 : softB op_152_7 #[true, true, true, true, true, true, true, true, true, true, true, true, true, true, true, true, true, false, true] (Array.replicate 19 false) 0 = true := by kernel_rfl
theorem sb_152_7_1 : softB op_152_7 #[true, true, true, true, true, true, true, true, true, true, true, true, true, true, true, true, true, false, true] ((Array.replicate 19 false).setIfInBounds 0 true) 1 = true := by kernel_rfl
theorem sb_152_7_2 : softB op_152_7 #[true, true, true, true, true, true, true, true, true, true, true, true, true, true, true, true, true, false, true] (((Array.replicate 19 false).setIfInBounds 0 true).setIfInBounds 1 true) 2 = true := by kernel_rfl
theorem sb_152_7_3 : softB op_152_7 #[true, true, true, true, true, true, true, true, true, true, true, true, true, true, true, true, true, false, true] ((((Array.replicate 19 false).setIfInBounds 0 true).setIfInBounds 1 true).setIfInBounds 2 true) 3 = true := by kernel_rfl
theorem sb_152_7_4 : softB op_152_7 #[true, true, true, true, true, true, true, true, true, true, true, true, true, true, true, true, true, false, true] (((((Array.replicate 19 false).setIfInBounds 0 true).setIfInBounds 1 true).setIfInBounds 2 true).setIfInBounds 3 true) 4 = true := by kernel_rfl
theorem sb_152_7_5 : softB op_152_7 #[true, true, true, true, true, true, true, true, true, true, true, true, true, true, true, true, true, false, true] ((((((Array.replicate 19 false).setIfInBounds 0 true).setIfInBounds 1 true).setIfInBounds 2 true).setIfInBounds 3 true).setIfInBounds 4 true) 5 = true := by kernel_rfl
theorem sb_152_7_6 : softB op_152_7 #[true, true, true, true, true, true, true, true, true, true, true, true, true, true, true, true, true, false, true] (((((((Array.replicate 19 false).setIfInBounds 0 true).setIfInBounds 1 true).setIfInBounds 2 true).setIfInBounds 3 true).setIfInBounds 4 true).setIfInBounds 5 true) 6 = true := by kernel_rfl
theorem sb_152_7_7 : softB op_152_7 #[true, true, true, true, true, true, true, true, true, true, true, true, true, true, true, true, true, false, true] ((((((((Array.replicate 19 false).setIfInBounds 0 true).setIfInBounds 1 true).setIfInBounds 2 true).setIfInBounds 3 true).setIfInBounds 4 true).setIfInBounds 5 true).setIfInBounds 6 true) 7 = true := by kernel_rfl
theorem sb_152_7_8 : softB op_152_7 #[true, true, true, true, true, true, true, true, true, true, true, true, true, true, true, true, true, false, true] (((((((((Array.replicate 19 false).setIfInBounds 0 true).setIfInBounds 1 true).setIfInBounds 2 true).setIfInBounds 3 true).setIfInBounds 4 true).setIfInBounds 5 true).setIfInBounds 6 true).setIfInBounds 7 true) 8 = true := by kernel_rfl
theorem sb_152_7_9 : softB op_152_7 #[true, true, true, true, true, true, true, true, true, true, true, true, true, true, true, true, true, false, true] ((((((((((Array.replicate 19 false).setIfInBounds 0 true).setIfInBounds 1 true).setIfInBounds 2 true).setIfInBounds 3 true).setIfInBounds 4 true).setIfInBounds 5 true).setIfInBounds 6 true).setIfInBounds 7 true).setIfInBounds 8 true) 9 = true := by kernel_rfl
theorem sb_152_7_10 : softB op_152_7 #[true, true, true, true, true, true, true, true, true, true, true, true, true, true, true, true, true, false, true] (((((((((((Array.replicate 19 false).setIfInBounds 0 true).setIfInBounds 1 true).setIfInBounds 2 true).setIfInBounds 3 true).setIfInBounds 4 true).setIfInBounds 5 true).setIfInBounds 6 true).setIfInBounds 7 true).setIfInBounds 8 true).setIfInBounds 9 true) 10 = true := by kernel_rfl
theorem sb_152_7_11 : softB op_152_7 #[true, true, true, true, true, true, true, true, true, true, true, true, true, true, true, true, true, false, true] ((((((((((((Array.replicate 19 false).setIfInBounds 0 true).setIfInBounds 1 true).setIfInBounds 2 true).setIfInBounds 3 true).setIfInBounds 4 true).setIfInBounds 5 true).setIfInBounds 6 true).setIfInBounds 7 true).setIfInBounds 8 true).setIfInBounds 9 true).setIfInBounds 10 true) 11 = true := by kernel_rfl
theorem sb_152_7_12 : softB op_152_7 #[true, true, true, true, true, true, true, true, true, true, true, true, true, true, true, true, true, false, true] (((((((((((((Array.replicate 19 false).setIfInBounds 0 true).setIfInBounds 1 true).setIfInBounds 2 true).setIfInBounds 3 true).setIfInBounds 4 true).setIfInBounds 5 true).setIfInBounds 6 true).setIfInBounds 7 true).setIfInBounds 8 true).setIfInBounds 9 true).setIfInBounds 10 true).setIfInBounds 11 true) 12 = true := by kernel_rfl
theorem sb_152_7_13 : softB op_152_7 #[true, true, true, true, true, true, true, true, true, true, true, true, true, true, true, true, true, false, true] ((((((((((((((Array.replicate 19 false).setIfInBounds 0 true).setIfInBounds 1 true).setIfInBounds 2 true).setIfInBounds 3 true).setIfInBounds 4 true).setIfInBounds 5 true).setIfInBounds 6 true).setIfInBounds 7 true).setIfInBounds 8 true).setIfInBounds 9 true).setIfInBounds 10 true).setIfInBounds 11 true).setIfInBounds 12 true) 13 = true := by kernel_rfl
theorem sb_152_7_14 : softB op_152_7 #[true, true, true, true, true, true, true, true, true, true, true, true, true, true, true, true, true, false, true] (((((((((((((((Array.replicate 19 false).setIfInBounds 0 true).setIfInBounds 1 true).setIfInBounds 2 true).setIfInBounds 3 true).setIfInBounds 4 true).setIfInBounds 5 true).setIfInBounds 6 true).setIfInBounds 7 true).setIfInBounds 8 true).setIfInBounds 9 true).setIfInBounds 10 true).setIfInBounds 11 true).setIfInBounds 12 true).setIfInBounds 13 true) 14 = true := by kernel_rfl
theorem sb_152_7_15 : softB op_152_7 #[true, true, true, true, true, true, true, true, true, true, true, true, true, true, true, true, true, false, true] ((((((((((((((((Array.replicate 19 false).setIfInBounds 0 true).setIfInBounds 1 true).setIfInBounds 2 true).setIfInBounds 3 true).setIfInBounds 4 true).setIfInBounds 5 true).setIfInBounds 6 true).setIfInBounds 7 true).setIfInBounds 8 true).setIfInBounds 9 true).setIfInBounds 10 true).setIfInBounds 11 true).setIfInBounds 12 true).setIfInBounds 13 true).setIfInBounds 14 true) 15 = true := by kernel_rfl
theorem sb_152_7_16 : softB op_152_7 #[true, true, true, true, true, true, true, true, true, true, true, true, true, true, true, true, true, false, true] (((((((((((((((((Array.replicate 19 false).setIfInBounds 0 true).setIfInBounds 1 true).setIfInBounds 2 true).setIfInBounds 3 true).setIfInBounds 4 true).setIfInBounds 5 true).setIfInBounds 6 true).setIfInBounds 7 true).setIfInBounds 8 true).setIfInBounds 9 true).setIfInBounds 10 true).setIfInBounds 11 true).setIfInBounds 12 true).setIfInBounds 13 true).setIfInBounds 14 true).setIfInBounds 15 true) 16 = true := by kernel_rfl
theorem sb_152_7_17 : hardB op_152_7 ((((((((((((((((((Array.replicate 19 false).setIfInBounds 0 true).setIfInBounds 1 true).setIfInBounds 2 true).setIfInBounds 3 true).setIfInBounds 4 true).setIfInBounds 5 true).setIfInBounds 6 true).setIfInBounds 7 true).setIfInBounds 8 true).setIfInBounds 9 true).setIfInBounds 10 true).setIfInBounds 11 true).setIfInBounds 12 true).setIfInBounds 13 true).setIfInBounds 14 true).setIfInBounds 15 true).setIfInBounds 16 true) [17] = true := by kernel_rfl
theorem sb_152_7_18 : softB op_152_7 #[true, true, true, true, true, true, true, true, true, true, true, true, true, true, true, true, true, false, true] (((((((((((((((((((Array.replicate 19 false).setIfInBounds 0 true).setIfInBounds 1 true).setIfInBounds 2 true).setIfInBounds 3 true).setIfInBounds 4 true).setIfInBounds 5 true).setIfInBounds 6 true).setIfInBounds 7 true).setIfInBounds 8 true).setIfInBounds 9 true).setIfInBounds 10 true).setIfInBounds 11 true).setIfInBounds 12 true).setIfInBounds 13 true).setIfInBounds 14 true).setIfInBounds 15 true).setIfInBounds 16 true).setIfInBounds 17 true) 18 = true := by kernel_rfl
theorem sb_152_7_19 : hardB op_152_7 ((((((((((((((((((((Array.replicate 19 false).setIfInBounds 0 true).setIfInBounds 1 true).setIfInBounds 2 true).setIfInBounds 3 true).setIfInBounds 4 true).setIfInBounds 5 true).setIfInBounds 6 true).setIfInBounds 7 true).setIfInBounds 8 true).setIfInBounds 9 true).setIfInBounds 10 true).setIfInBounds 11 true).setIfInBounds 12 true).setIfInBounds 13 true).setIfInBounds 14 true).setIfInBounds 15 true).setIfInBounds 16 true).setIfInBounds 17 true).setIfInBounds 18 true) [] = true := by kernel_rfl
/- api.CheckFiles -/
def m152_w1 (n : Nat) (l : (List File)) (mm : Nat) : (List Str) → Int → Option (Flow (Int) ((List Str) × Int)) := it2 (fun lp1 l1 c1 =>
cond (decide (c1 < (l.length : Int))) (
Option.bind (ixL l c1) fun x1 =>
Option.bind (ixL l c1) fun x2 =>
Option.bind (ixL l c1) fun x3 =>
ob1 (m229 n x1.path x2.mode (x3.data.length : Int) l1) fun c3 =>
cond (decide (¬ (c3 = 0))) (
Option.bind (some c3) fun q1 => some (.ret q1)) (
Option.bind (ixL l c1) fun x4 =>
Option.bind (apd l1 x4.path) fun l3 =>
lp1 l3 (wi (c1 + 1)))) (
some (.nx (l1, c1)))) mm
def m152 (n : Nat) (l : (List File)) : Option (Int) :=
cond (decide ((8 : Int) < (l.length : Int))) (
some 8) (
flow (m152_w1 n l n ([] : List Str) 0) some (un2 fun l2 c2 =>
some 0))
theorem t152 {n : Nat} {C : List Chunk} {rc1 : Int} {v1 : Value} {l : (List File)} (hr1 : Rd rFile C v1 l)  (hm : m152 n l = some rc1) : Trip Tryz.prog 152 #[v1] ([] ++ [C]) (fun u S' => .int .i64 rc1 = u ∧ S' = [] ++ [C]) := by
  refine fn_entry (args := [v1]) Tryz.func152 rfl Tryz.ntmps152 rfl (fun w0 => ?_)
  refine c_seq ?_
  refine c_region ?_
  refine o_L (y_assign rfl) rfl rfl ?_
  refine o_nil0 rfl ?_
  refine c_seq ?_
  refine c_seq ?_
  refine c_region ?_
  refine o_T (y_move rfl) rfl ?_
  refine o_T (y_lenR hr1 Tryz.underlying57 rfl) rfl ?_
  refine o_T (y_gtr rfl rfl) rfl ?_
  refine o_nil1 8 rfl rfl ?_
  refine c_cond rfl (fun h1 => ?_) (fun h1 => ?_)
  · have hm := cd_t h1 hm
    refine c_seq ?_
    refine c_region ?_
    refine o_L (y_assign rfl) rfl rfl ?_
    refine o_nil0 rfl ?_
    refine c_ret ?_
    obtain rfl := p1 hm
    refine fun aX wX heX hsX => ret1 Tryz.results152 heX rfl (s_take s_nil) ?_
    exact ⟨rfl, rfl⟩
  · have hm := cd_f h1 hm
    refine c_skip ?_
    refine c_seq ?_
    refine c_region ?_
    have ho1 : Own rStr (.slice none 0 0) [] [] := Own.nil
    refine o_emp ?_
    refine o_L (y_assign rfl) rfl rfl ?_
    refine o_nil0 rfl ?_
    refine c_seq ?_
    refine c_seq ?_
    refine c_region ?_
    refine o_L (y_assign rfl) rfl rfl ?_
    refine o_nil0 rfl ?_
    obtain ⟨f1, F1, hF1, hj1, hF2⟩ := fl2 hm
    refine c_joinP (n := 1) (fun sh G => ∃ (l2 : List Str), ∃ (c2 : Int), ∃ (v3 : Value), ∃ (g2 : List Chunk), sh = [(3, v3), (4, .int .i64 c2)] ∧ G = [g2] ∧ F1 (l2, c2) = some rc1 ∧ Own rStr v3 l2 g2) (s_take (s_take s_nil)) (.s .z) (fun _ _ h => h) ?_ ?_
    · skip
      refine c_block ?_
      refine c_loopP (n := 1) (fun mm sh G => ∃ (l1 : List Str), ∃ (c1 : Int), ∃ (v2 : Value), ∃ (g1 : List Chunk), sh = [(3, v2), (4, .int .i64 c1)] ∧ G = [g1] ∧ m152_w1 n l mm l1 c1 = some f1 ∧ Own rStr v2 l1 g1) n (s_take (s_take s_nil)) (.s .z) ⟨_, _, ⟨_, _, (.slice none 0 0), _, rfl, rfl, hj1, ho1⟩, ⟨rfl, rfl, trivial⟩, _, (s_take (s_take s_nil))⟩ ?_
      rintro mm sh G ⟨l1, c1, v2, g1, rfl, rfl, hm, ho2⟩
      obtain ⟨mm1, rfl, hm⟩ := it2_s hm
      refine c_seq ?_
      refine c_seq ?_
      refine c_region ?_
      refine o_T (y_move rfl) rfl ?_
      refine o_T (y_move rfl) rfl ?_
      refine o_T (y_lenR hr1 Tryz.underlying57 rfl) rfl ?_
      refine o_T (y_lss rfl rfl) rfl ?_
      refine o_nil1 12 rfl rfl ?_
      refine c_cond rfl (fun h2 => ?_) (fun h2 => ?_)
      · have hm := cd_t h2 hm
        refine c_skip ?_
        refine c_seq ?_
        refine c_block ?_
        refine c_seq ?_
        refine c_draw #[true, true, true, true, true, true, true, true, true, true, true, true, true, true, true, true, true, false, true] rfl (n := 19) rfl ?_
        refine d_T 0 rfl sb_152_7_0 rfl (y_move rfl) rfl ?_
        refine d_T 1 rfl sb_152_7_1 rfl (y_move rfl) rfl ?_
        obtain ⟨x1, hx1, hm⟩ := bd hm
        obtain ⟨b1, w1, cs1, y1, z1, vs1, hc1, ha1, hr2, hy1⟩ := hr1.ix hx1
        obtain rfl : vs1 = File.enc x1 := hr2
        refine d_T 2 rfl sb_152_7_2 rfl (hy1 sl_57 rfl rfl rfl) rfl ?_
        refine d_T 3 rfl sb_152_7_3 rfl (y_fa fl_71_0 rfl) rfl ?_
        refine d_ld 4 rfl sb_152_7_4 one_9 rfl (fun x hx => hx) (ms (mg hc1)) (At.getA (ha1.comp File.a_path)) rfl ?_
        refine d_T 5 rfl sb_152_7_5 rfl (y_move rfl) rfl ?_
        refine d_T 6 rfl sb_152_7_6 rfl (y_move rfl) rfl ?_
        obtain ⟨x2, hx2, hm⟩ := bd hm
        obtain ⟨b2, w2, cs2, y2, z2, vs2, hc2, ha2, hr3, hy2⟩ := hr1.ix hx2
        obtain rfl : vs2 = File.enc x2 := hr3
        refine d_T 7 rfl sb_152_7_7 rfl (hy2 sl_57 rfl rfl rfl) rfl ?_
        refine d_T 8 rfl sb_152_7_8 rfl (y_fa fl_71_2 rfl) rfl ?_
        refine d_ld 9 rfl sb_152_7_9 one_3 rfl (fun x hx => hx) (ms (mg hc2)) (At.getA (ha2.comp File.a_mode)) rfl ?_
        refine d_T 10 rfl sb_152_7_10 rfl (y_move rfl) rfl ?_
        refine d_T 11 rfl sb_152_7_11 rfl (y_move rfl) rfl ?_
        obtain ⟨x3, hx3, hm⟩ := bd hm
        obtain ⟨b3, w3, cs3, y3, z3, vs3, hc3, ha3, hr4, hy3⟩ := hr1.ix hx3
        obtain rfl : vs3 = File.enc x3 := hr4
        refine d_T 12 rfl sb_152_7_12 rfl (hy3 sl_57 rfl rfl rfl) rfl ?_
        refine d_T 13 rfl sb_152_7_13 rfl (y_fa fl_71_1 rfl) rfl ?_
        refine d_ld 14 rfl sb_152_7_14 one_9 rfl (fun x hx => hx) (ms (mg hc3)) (At.getA (ha3.comp File.a_data)) rfl ?_
        refine d_T 15 rfl sb_152_7_15 rfl (y_slen Tryz.underlying9 rfl) rfl ?_
        refine d_T 16 rfl sb_152_7_16 rfl (y_move rfl) rfl ?_
        refine d_hard 17 rfl sb_152_7_17 ?_
        obtain ⟨c3, hx4, hm⟩ := bd1 hm
        refine o_callC en_229 rfl s_nil (t229 (ho2.rd.mono (fun _ hz => (mg hz))) hx4) rfl (fun u1 S1 hR1 => ?_)
        obtain ⟨rfl, rfl⟩ := hR1
        refine o_rest ?_
        refine o_stop (fun h => nomatch h) ?_
        refine d_L 18 rfl sb_152_7_18 rfl (y_assign rfl) rfl rfl ?_
        refine d_nil0 sb_152_7_19 rfl ?_
        refine c_seq ?_
        refine c_seq ?_
        refine c_region ?_
        refine o_T (y_move rfl) rfl ?_
        refine o_T (y_neq rfl rfl) rfl ?_
        refine o_nil1 34 rfl rfl ?_
        refine c_cond rfl (fun h3 => ?_) (fun h3 => ?_)
        · have hm := cd_t h3 hm
          refine c_seq ?_
          refine c_region ?_
          refine o_T (y_move rfl) rfl ?_
          refine o_L (y_assign rfl) rfl rfl ?_
          refine o_nil0 rfl ?_
          refine c_ret ?_
          obtain ⟨q1, hq1, hm⟩ := bd hm
          have hm := fl_ret hm hF2
          have hm := hq1.trans hm
          obtain rfl := p1 hm
          refine fun aX wX heX hsX => ret1 Tryz.results152 heX rfl (s_skip (s_take s_nil)) ?_
          exact ⟨rfl, rfl⟩
        · have hm := cd_f h3 hm
          refine c_skip ?_
          refine c_region ?_
          refine o_T (y_move rfl) rfl ?_
          refine o_T (y_move rfl) rfl ?_
          refine o_T (y_move rfl) rfl ?_
          obtain ⟨x4, hx5, hm⟩ := bd hm
          obtain ⟨b4, w4, cs4, y4, z4, vs4, hc4, ha4, hr5, hy4⟩ := hr1.ix hx5
          obtain rfl : vs4 = File.enc x4 := hr5
          refine o_T (hy4 sl_57 rfl rfl rfl) rfl ?_
          refine o_T (y_fa fl_71_0 rfl) rfl ?_
          refine o_ld one_9 rfl (ms (mg hc4)) (At.getA (ha4.comp File.a_path)) rfl ?_
          refine o_bs1 sz_185 rfl rfl rfl rfl rfl rfl (fun b5 => ?_)
          obtain ⟨l3, hx6, hm⟩ := bd hm
          refine o_appR (R := rStr) (a := x4.path) sz_185 rfl rfl rfl rfl ho2 rfl hx6 (Sel.e (s_get (ks k0) (s_take s_nil))) rfl (fun v4 g3 ho4 => ?_)
          refine o_L (y_assign rfl) rfl rfl ?_
          refine o_nil0 rfl ?_
          refine c_region ?_
          refine o_T (y_move rfl) rfl ?_
          refine o_T (y_add rfl rfl rfl) rfl ?_
          refine o_L (y_assign rfl) rfl rfl ?_
          refine o_nil0 rfl ?_
          exact ⟨mm1, Nat.lt_succ_self _, _, _, ⟨_, _, v4, _, rfl, rfl, hm, ho4⟩, ⟨rfl, rfl, trivial⟩, ⟨rfl, rfl⟩, _, (s_take (s_take s_nil))⟩
      · have hm := cd_f h2 hm
        refine c_exit ?_
        have hm := fl_nx hm hF2
        exact ⟨_, _, ⟨_, _, v2, _, rfl, rfl, hm, ho2⟩, ⟨rfl, rfl, trivial⟩, ⟨rfl, rfl⟩, _, (s_take (s_take s_nil))⟩
    · rintro sh G ⟨l2, c2, v3, g2, rfl, rfl, hm, ho3⟩
      subst hF1
      refine c_seq ?_
      refine c_region ?_
      refine o_L (y_assign rfl) rfl rfl ?_
      refine o_nil0 rfl ?_
      refine c_ret ?_
      obtain rfl := p1 hm
      refine fun aX wX heX hsX => ret1 Tryz.results152 heX rfl (s_skip (s_take s_nil)) ?_
      exact ⟨rfl, rfl⟩
end Go.Proofs.Qxb6500350aGreat
