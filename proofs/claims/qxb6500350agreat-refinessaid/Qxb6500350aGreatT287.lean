/- MADE BY PROGRAM (tools350/mir.py): mirror and walk. -/
import Derived.Test.Qxb6500350aGreatF2
import Derived.Test.Qxb6500350aGreatT229
set_option linter.unusedVariables false
set_option linter.unusedSimpArgs false
set_option maxRecDepth 20000
set_option maxHeartbeats 4000000
namespace Go.Proofs.Qxb6500350aGreat
open Go.Eng

def op_287_7 : Array Go.Oper := #[{ dst := some 15, op := Go.Op.move (Go.Operand.tmp 0), type := 277, pos := "check.go:163", after := #[], guard := none }, { dst := some 16, op := Go.Op.move (Go.Operand.tmp 4), type := 3, pos := "check.go:163", after := #[], guard := none }, { dst := some 17, op := Go.Op.indexAddr 277 (Go.Operand.tmp 15) (Go.Operand.tmp 16), type := 0, pos := "check.go:163", after := #[{ on := 0, ground := Go.Ground.data }, { on := 1, ground := Go.Ground.data }], guard := none }, { dst := some 18, op := Go.Op.fieldAddr 279 (Go.Operand.tmp 17) 0, type := 0, pos := "check.go:163", after := #[{ on := 2, ground := Go.Ground.data }], guard := none }, { dst := some 19, op := Go.Op.load 9 (Go.Operand.tmp 18), type := 9, pos := "check.go:163", after := #[{ on := 3, ground := Go.Ground.data }], guard := none }, { dst := some 20, op := Go.Op.move (Go.Operand.tmp 0), type := 277, pos := "check.go:163", after := #[], guard := none }, { dst := some 21, op := Go.Op.move (Go.Operand.tmp 4), type := 3, pos := "check.go:163", after := #[], guard := none }, { dst := some 22, op := Go.Op.indexAddr 277 (Go.Operand.tmp 20) (Go.Operand.tmp 21), type := 0, pos := "check.go:163", after := #[{ on := 5, ground := Go.Ground.data }, { on := 6, ground := Go.Ground.data }], guard := none }, { dst := some 23, op := Go.Op.fieldAddr 279 (Go.Operand.tmp 22) 2, type := 0, pos := "check.go:163", after := #[{ on := 7, ground := Go.Ground.data }], guard := none }, { dst := some 24, op := Go.Op.load 3 (Go.Operand.tmp 23), type := 3, pos := "check.go:163", after := #[{ on := 8, ground := Go.Ground.data }], guard := none }, { dst := some 25, op := Go.Op.move (Go.Operand.tmp 3), type := 185, pos := "check.go:163", after := #[], guard := none }, { dst := some 26, op := Go.Op.call { callee := Go.Callee.value (Go.Operand.func 229), args := #[Go.Operand.tmp 19, Go.Operand.tmp 24, Go.Operand.const (Go.Value.int Go.IntKind.i64 0), Go.Operand.tmp 25], argTypes := #[9, 3, 3, 185] }, type := 73, pos := "check.go:163", after := #[{ on := 4, ground := Go.Ground.data }, { on := 9, ground := Go.Ground.data }, { on := 10, ground := Go.Ground.data }], guard := none }, { dst := some 5, op := Go.Op.assign (Go.Operand.tmp 26), type := 73, pos := "check.go:163", after := #[{ on := 11, ground := Go.Ground.data }, { on := 11, ground := Go.Ground.chain }, { on := 0, ground := Go.Ground.phase }, { on := 1, ground := Go.Ground.phase }, { on := 2, ground := Go.Ground.phase }, { on := 3, ground := Go.Ground.phase }, { on := 4, ground := Go.Ground.phase }, { on := 5, ground := Go.Ground.phase }, { on := 6, ground := Go.Ground.phase }, { on := 7, ground := Go.Ground.phase }, { on := 8, ground := Go.Ground.phase }, { on := 9, ground := Go.Ground.phase }, { on := 10, ground := Go.Ground.phase }, { on := 11, ground := Go.Ground.phase }], guard := none }]
theorem sb_287_7_0 : softB op_287_7 #[true, true, true, true, true, true, true, true, true, true, true, false, true] (Array.replicate 13 false) 0 = true := by kernel_rfl
theorem sb_287_7_1 : softB op_287_7 #[true, true, true, true, true, true, true, true, true, true, true, false, true] ((Array.replicate 13 false).setIfInBounds 0 true) 1 = true := by kernel_rfl
theorem sb_287_7_2 : softB op_287_7 #[true, true, true, true, true, true, true, true, true, true, true, false, true] (((Array.replicate 13 false).setIfInBounds 0 true).setIfInBounds 1 true) 2 = true := by kernel_rfl
theorem sb_287_7_3 : softB op_287_7 #[true, true, true, true, true, true, true, true, true, true, true, false, true] ((((Array.replicate 13 false).setIfInBounds 0 true).setIfInBounds 1 true).setIfInBounds 2 true) 3 = true := by kernel_rfl
theorem sb_287_7_4 : softB op_287_7 #[true, true, true, true, true, true, true, true, true, true, true, false, true] (((((Array.replicate 13 false).setIfInBounds 0 true).setIfInBounds 1 true).setIfInBounds 2 true).setIfInBounds 3 true) 4 = true := by kernel_rfl
theorem sb_287_7_5 : softB op_287_7 #[true, true, true, true, true, true, true, true, true, true, true, false, true] ((((((Array.replicate 13 false).setIfInBounds 0 true).setIfInBounds 1 true).setIfInBounds 2 true).setIfInBounds 3 true).setIfInBounds 4 true) 5 = true := by kernel_rfl
theorem sb_287_7_6 : softB op_287_7 #[true, true, true, true, true, true, true, true, true, true, true, false, true] (((((((Array.replicate 13 false).setIfInBounds 0 true).setIfInBounds 1 true).setIfInBounds 2 true).setIfInBounds 3 true).setIfInBounds 4 true).setIfInBounds 5 true) 6 = true := by kernel_rfl
theorem sb_287_7_7 : softB op_287_7 #[true, true, true, true, true, true, true, true, true, true, true, false, true] ((((((((Array.replicate 13 false).setIfInBounds 0 true).setIfInBounds 1 true).setIfInBounds 2 true).setIfInBounds 3 true).setIfInBounds 4 true).setIfInBounds 5 true).setIfInBounds 6 true) 7 = true := by kernel_rfl
theorem sb_287_7_8 : softB op_287_7 #[true, true, true, true, true, true, true, true, true, true, true, false, true] (((((((((Array.replicate 13 false).setIfInBounds 0 true).setIfInBounds 1 true).setIfInBounds 2 true).setIfInBounds 3 true).setIfInBounds 4 true).setIfInBounds 5 true).setIfInBounds 6 true).setIfInBounds 7 true) 8 = true := by kernel_rfl
theorem sb_287_7_9 : softB op_287_7 #[true, true, true, true, true, true, true, true, true, true, true, false, true] ((((((((((Array.replicate 13 false).setIfInBounds 0 true).setIfInBounds 1 true).setIfInBounds 2 true).setIfInBounds 3 true).setIfInBounds 4 true).setIfInBounds 5 true).setIfInBounds 6 true).setIfInBounds 7 true).setIfInBounds 8 true) 9 = true := by kernel_rfl
theorem sb_287_7_10 : softB op_287_7 #[true, true, true, true, true, true, true, true, true, true, true, false, true] (((((((((((Array.replicate 13 false).setIfInBounds 0 true).setIfInBounds 1 true).setIfInBounds 2 true).setIfInBounds 3 true).setIfInBounds 4 true).setIfInBounds 5 true).setIfInBounds 6 true).setIfInBounds 7 true).setIfInBounds 8 true).setIfInBounds 9 true) 10 = true := by kernel_rfl
theorem sb_287_7_11 : hardB op_287_7 ((((((((((((Array.replicate 13 false).setIfInBounds 0 true).setIfInBounds 1 true).setIfInBounds 2 true).setIfInBounds 3 true).setIfInBounds 4 true).setIfInBounds 5 true).setIfInBounds 6 true).setIfInBounds 7 true).setIfInBounds 8 true).setIfInBounds 9 true).setIfInBounds 10 true) [11] = true := by kernel_rfl
theorem sb_287_7_12 : softB op_287_7 #[true, true, true, true, true, true, true, true, true, true, true, false, true] (((((((((((((Array.replicate 13 false).setIfInBounds 0 true).setIfInBounds 1 true).setIfInBounds 2 true).setIfInBounds 3 true).setIfInBounds 4 true).setIfInBounds 5 true).setIfInBounds 6 true).setIfInBounds 7 true).setIfInBounds 8 true).setIfInBounds 9 true).setIfInBounds 10 true).setIfInBounds 11 true) 12 = true := by kernel_rfl
theorem sb_287_7_13 : hardB op_287_7 ((((((((((((((Array.replicate 13 false).setIfInBounds 0 true).setIfInBounds 1 true).setIfInBounds 2 true).setIfInBounds 3 true).setIfInBounds 4 true).setIfInBounds 5 true).setIfInBounds 6 true).setIfInBounds 7 true).setIfInBounds 8 true).setIfInBounds 9 true).setIfInBounds 10 true).setIfInBounds 11 true).setIfInBounds 12 true) [] = true := by kernel_rfl
/- api.CheckEntries -/
def m287_w1 (n : Nat) (l : (List Entry)) (mm : Nat) : (List Str) → Int → Option (Flow (Int) ((List Str) × Int)) := it2 (fun lp1 l1 c1 =>
cond (decide (c1 < (l.length : Int))) (
Option.bind (ixL l c1) fun x1 =>
Option.bind (ixL l c1) fun x2 =>
ob1 (m229 n x1.path x2.mode 0 l1) fun c3 =>
cond (decide (¬ (c3 = 0))) (
Option.bind (some c3) fun q1 => some (.ret q1)) (
Option.bind (ixL l c1) fun x3 =>
Option.bind (apd l1 x3.path) fun l3 =>
lp1 l3 (wi (c1 + 1)))) (
some (.nx (l1, c1)))) mm
def m287 (n : Nat) (l : (List Entry)) : Option (Int) :=
cond (decide ((8 : Int) < (l.length : Int))) (
some 8) (
flow (m287_w1 n l n ([] : List Str) 0) some (un2 fun l2 c2 =>
some 0))
theorem t287 {n : Nat} {C : List Chunk} {rc1 : Int} {v1 : Value} {l : (List Entry)} (hr1 : Rd rEntry C v1 l)  (hm : m287 n l = some rc1) : Trip Tryz.prog 287 #[v1] ([] ++ [C]) (fun u S' => .int .i64 rc1 = u ∧ S' = [] ++ [C]) := by
  refine fn_entry (args := [v1]) Tryz.func287 rfl Tryz.ntmps287 rfl (fun w0 => ?_)
  refine c_seq ?_
  refine c_region ?_
  refine o_L (y_assign rfl) rfl rfl ?_
  refine o_nil0 rfl ?_
  refine c_seq ?_
  refine c_seq ?_
  refine c_region ?_
  refine o_T (y_move rfl) rfl ?_
  refine o_T (y_lenR hr1 Tryz.underlying277 rfl) rfl ?_
  refine o_T (y_gtr rfl rfl) rfl ?_
  refine o_nil1 8 rfl rfl ?_
  refine c_cond rfl (fun h1 => ?_) (fun h1 => ?_)
  · have hm := cd_t h1 hm
    refine c_seq ?_
    refine c_region ?_
    refine o_L (y_assign rfl) rfl rfl ?_
    refine o_nil0 rfl ?_
    refine c_ret ?_
    obtain rfl := p1 hm
    refine fun aX wX heX hsX => ret1 Tryz.results287 heX rfl (s_take s_nil) ?_
    exact ⟨rfl, rfl⟩
  · have hm := cd_f h1 hm
    refine c_skip ?_
    refine c_seq ?_
    refine c_region ?_
    have ho1 : Own rStr (.slice none 0 0) [] [] := Own.nil
    refine o_emp ?_
    refine o_L (y_assign rfl) rfl rfl ?_
    refine o_nil0 rfl ?_
    refine c_seq ?_
    refine c_seq ?_
    refine c_region ?_
    refine o_L (y_assign rfl) rfl rfl ?_
    refine o_nil0 rfl ?_
    obtain ⟨f1, F1, hF1, hj1, hF2⟩ := fl2 hm
    refine c_joinP (n := 1) (fun sh G => ∃ (l2 : List Str), ∃ (c2 : Int), ∃ (v3 : Value), ∃ (g2 : List Chunk), sh = [(3, v3), (4, .int .i64 c2)] ∧ G = [g2] ∧ F1 (l2, c2) = some rc1 ∧ Own rStr v3 l2 g2) (s_take (s_take s_nil)) (.s .z) (fun _ _ h => h) ?_ ?_
    · skip
      refine c_block ?_
      refine c_loopP (n := 1) (fun mm sh G => ∃ (l1 : List Str), ∃ (c1 : Int), ∃ (v2 : Value), ∃ (g1 : List Chunk), sh = [(3, v2), (4, .int .i64 c1)] ∧ G = [g1] ∧ m287_w1 n l mm l1 c1 = some f1 ∧ Own rStr v2 l1 g1) n (s_take (s_take s_nil)) (.s .z) ⟨_, _, ⟨_, _, (.slice none 0 0), _, rfl, rfl, hj1, ho1⟩, ⟨rfl, rfl, trivial⟩, _, (s_take (s_take s_nil))⟩ ?_
      rintro mm sh G ⟨l1, c1, v2, g1, rfl, rfl, hm, ho2⟩
      obtain ⟨mm1, rfl, hm⟩ := it2_s hm
      refine c_seq ?_
      refine c_seq ?_
      refine c_region ?_
      refine o_T (y_move rfl) rfl ?_
      refine o_T (y_move rfl) rfl ?_
      refine o_T (y_lenR hr1 Tryz.underlying277 rfl) rfl ?_
      refine o_T (y_lss rfl rfl) rfl ?_
      refine o_nil1 12 rfl rfl ?_
      refine c_cond rfl (fun h2 => ?_) (fun h2 => ?_)
      · have hm := cd_t h2 hm
        refine c_skip ?_
        refine c_seq ?_
        refine c_block ?_
        refine c_seq ?_
        refine c_draw #[true, true, true, true, true, true, true, true, true, true, true, false, true] rfl (n := 13) rfl ?_
        refine d_T 0 rfl sb_287_7_0 rfl (y_move rfl) rfl ?_
        refine d_T 1 rfl sb_287_7_1 rfl (y_move rfl) rfl ?_
        obtain ⟨x1, hx1, hm⟩ := bd hm
        obtain ⟨b1, w1, cs1, y1, z1, vs1, hc1, ha1, hr2, hy1⟩ := hr1.ix hx1
        obtain rfl : vs1 = Entry.enc x1 := hr2
        refine d_T 2 rfl sb_287_7_2 rfl (hy1 sl_277 rfl rfl rfl) rfl ?_
        refine d_T 3 rfl sb_287_7_3 rfl (y_fa fl_279_0 rfl) rfl ?_
        refine d_ld 4 rfl sb_287_7_4 one_9 rfl (fun x hx => hx) (ms (mg hc1)) (At.getA (ha1.comp Entry.a_path)) rfl ?_
        refine d_T 5 rfl sb_287_7_5 rfl (y_move rfl) rfl ?_
        refine d_T 6 rfl sb_287_7_6 rfl (y_move rfl) rfl ?_
        obtain ⟨x2, hx2, hm⟩ := bd hm
        obtain ⟨b2, w2, cs2, y2, z2, vs2, hc2, ha2, hr3, hy2⟩ := hr1.ix hx2
        obtain rfl : vs2 = Entry.enc x2 := hr3
        refine d_T 7 rfl sb_287_7_7 rfl (hy2 sl_277 rfl rfl rfl) rfl ?_
        refine d_T 8 rfl sb_287_7_8 rfl (y_fa fl_279_2 rfl) rfl ?_
        refine d_ld 9 rfl sb_287_7_9 one_3 rfl (fun x hx => hx) (ms (mg hc2)) (At.getA (ha2.comp Entry.a_mode)) rfl ?_
        refine d_T 10 rfl sb_287_7_10 rfl (y_move rfl) rfl ?_
        refine d_hard 11 rfl sb_287_7_11 ?_
        obtain ⟨c3, hx3, hm⟩ := bd1 hm
        refine o_callC en_229 rfl s_nil (t229 (ho2.rd.mono (fun _ hz => (mg hz))) hx3) rfl (fun u1 S1 hR1 => ?_)
        obtain ⟨rfl, rfl⟩ := hR1
        refine o_rest ?_
        refine o_stop (fun h => nomatch h) ?_
        refine d_L 12 rfl sb_287_7_12 rfl (y_assign rfl) rfl rfl ?_
        refine d_nil0 sb_287_7_13 rfl ?_
        refine c_seq ?_
        refine c_seq ?_
        refine c_region ?_
        refine o_T (y_move rfl) rfl ?_
        refine o_T (y_neq rfl rfl) rfl ?_
        refine o_nil1 28 rfl rfl ?_
        refine c_cond rfl (fun h3 => ?_) (fun h3 => ?_)
        · have hm := cd_t h3 hm
          refine c_seq ?_
          refine c_region ?_
          refine o_T (y_move rfl) rfl ?_
          refine o_L (y_assign rfl) rfl rfl ?_
          refine o_nil0 rfl ?_
          refine c_ret ?_
          obtain ⟨q1, hq1, hm⟩ := bd hm
          have hm := fl_ret hm hF2
          have hm := hq1.trans hm
          obtain rfl := p1 hm
          refine fun aX wX heX hsX => ret1 Tryz.results287 heX rfl (s_skip (s_take s_nil)) ?_
          exact ⟨rfl, rfl⟩
        · have hm := cd_f h3 hm
          refine c_skip ?_
          refine c_region ?_
          refine o_T (y_move rfl) rfl ?_
          refine o_T (y_move rfl) rfl ?_
          refine o_T (y_move rfl) rfl ?_
          obtain ⟨x3, hx4, hm⟩ := bd hm
          obtain ⟨b3, w3, cs3, y3, z3, vs3, hc3, ha3, hr4, hy3⟩ := hr1.ix hx4
          obtain rfl : vs3 = Entry.enc x3 := hr4
          refine o_T (hy3 sl_277 rfl rfl rfl) rfl ?_
          refine o_T (y_fa fl_279_0 rfl) rfl ?_
          refine o_ld one_9 rfl (ms (mg hc3)) (At.getA (ha3.comp Entry.a_path)) rfl ?_
          refine o_bs1 sz_185 rfl rfl rfl rfl rfl rfl (fun b4 => ?_)
          obtain ⟨l3, hx5, hm⟩ := bd hm
          refine o_appR (R := rStr) (a := x3.path) sz_185 rfl rfl rfl rfl ho2 rfl hx5 (Sel.e (s_get (ks k0) (s_take s_nil))) rfl (fun v4 g3 ho4 => ?_)
          refine o_L (y_assign rfl) rfl rfl ?_
          refine o_nil0 rfl ?_
          refine c_region ?_
          refine o_T (y_move rfl) rfl ?_
          refine o_T (y_add rfl rfl rfl) rfl ?_
          refine o_L (y_assign rfl) rfl rfl ?_
          refine o_nil0 rfl ?_
          exact ⟨mm1, Nat.lt_succ_self _, _, _, ⟨_, _, v4, _, rfl, rfl, hm, ho4⟩, ⟨rfl, rfl, trivial⟩, ⟨rfl, rfl⟩, _, (s_take (s_take s_nil))⟩
      · have hm := cd_f h2 hm
        refine c_exit ?_
        have hm := fl_nx hm hF2
        exact ⟨_, _, ⟨_, _, v2, _, rfl, rfl, hm, ho2⟩, ⟨rfl, rfl, trivial⟩, ⟨rfl, rfl⟩, _, (s_take (s_take s_nil))⟩
    · rintro sh G ⟨l2, c2, v3, g2, rfl, rfl, hm, ho3⟩
      subst hF1
      refine c_seq ?_
      refine c_region ?_
      refine o_L (y_assign rfl) rfl rfl ?_
      refine o_nil0 rfl ?_
      refine c_ret ?_
      obtain rfl := p1 hm
      refine fun aX wX heX hsX => ret1 Tryz.results287 heX rfl (s_skip (s_take s_nil)) ?_
      exact ⟨rfl, rfl⟩
end Go.Proofs.Qxb6500350aGreat
