/- MADE BY PROGRAM (tools350/mir.py): mirror and walk. -/
import Derived.Test.Qxb6500350aGreatF2
set_option linter.unusedVariables false
set_option linter.unusedSimpArgs false
set_option maxRecDepth 20000
set_option maxHeartbeats 4000000
namespace Go.Proofs.Qxb6500350aGreat
open Go.Eng

def op_174_4 : Array Go.Oper := #[{ dst := some 19, op := Go.Op.move (Go.Operand.tmp 0), type := 33, pos := "work.go:34", after := #[], guard := none }, { dst := some 20, op := Go.Op.move (Go.Operand.tmp 4), type := 3, pos := "work.go:34", after := #[], guard := none }, { dst := some 21, op := Go.Op.move (Go.Operand.tmp 1), type := 57, pos := "work.go:34", after := #[], guard := none }, { dst := some 22, op := Go.Op.move (Go.Operand.tmp 4), type := 3, pos := "work.go:34", after := #[], guard := none }, { dst := some 23, op := Go.Op.indexAddr 57 (Go.Operand.tmp 21) (Go.Operand.tmp 22), type := 0, pos := "work.go:34", after := #[{ on := 2, ground := Go.Ground.data }, { on := 3, ground := Go.Ground.data }], guard := none }, { dst := some 24, op := Go.Op.fieldAddr 71 (Go.Operand.tmp 23) 0, type := 0, pos := "work.go:34", after := #[{ on := 4, ground := Go.Ground.data }], guard := none }, { dst := some 25, op := Go.Op.load 9 (Go.Operand.tmp 24), type := 9, pos := "work.go:34", after := #[{ on := 5, ground := Go.Ground.data }], guard := none }, { dst := some 26, op := Go.Op.move (Go.Operand.tmp 1), type := 57, pos := "work.go:34", after := #[], guard := none }, { dst := some 27, op := Go.Op.move (Go.Operand.tmp 4), type := 3, pos := "work.go:34", after := #[], guard := none }, { dst := some 28, op := Go.Op.indexAddr 57 (Go.Operand.tmp 26) (Go.Operand.tmp 27), type := 0, pos := "work.go:34", after := #[{ on := 7, ground := Go.Ground.data }, { on := 8, ground := Go.Ground.data }], guard := none }, { dst := some 29, op := Go.Op.fieldAddr 71 (Go.Operand.tmp 28) 1, type := 0, pos := "work.go:34", after := #[{ on := 9, ground := Go.Ground.data }], guard := none }, { dst := some 30, op := Go.Op.load 9 (Go.Operand.tmp 29), type := 9, pos := "work.go:34", after := #[{ on := 10, ground := Go.Ground.data }], guard := none }, { dst := some 31, op := Go.Op.build 71 #[(0, Go.Operand.tmp 25), (1, Go.Operand.tmp 30)], type := 71, pos := "work.go:34", after := #[{ on := 6, ground := Go.Ground.data }, { on := 11, ground := Go.Ground.data }], guard := none }, { dst := some 32, op := Go.Op.nilCheck (Go.Operand.tmp 19), type := 0, pos := "work.go:34", after := #[{ on := 0, ground := Go.Ground.data }], guard := none }, { dst := some 33, op := Go.Op.fieldAddr 130 (Go.Operand.tmp 32) 3, type := 0, pos := "work.go:34", after := #[{ on := 13, ground := Go.Ground.data }], guard := none }, { dst := some 34, op := Go.Op.indexAddr 128 (Go.Operand.tmp 33) (Go.Operand.tmp 20), type := 0, pos := "work.go:34", after := #[{ on := 14, ground := Go.Ground.data }, { on := 1, ground := Go.Ground.data }, { on := 0, ground := Go.Ground.phase }, { on := 1, ground := Go.Ground.phase }, { on := 2, ground := Go.Ground.phase }, { on := 3, ground := Go.Ground.phase }, { on := 4, ground := Go.Ground.phase }, { on := 5, ground := Go.Ground.phase }, { on := 6, ground := Go.Ground.phase }, { on := 7, ground := Go.Ground.phase }, { on := 8, ground := Go.Ground.phase }, { on := 9, ground := Go.Ground.phase }, { on := 10, ground := Go.Ground.phase }, { on := 11, ground := Go.Ground.phase }, { on := 12, ground := Go.Ground.phase }], guard := none }, { dst := none, op := Go.Op.store 71 (Go.Operand.tmp 34) (Go.Operand.tmp 31), type := 0, pos := "work.go:34", after := #[{ on := 15, ground := Go.Ground.data }, { on := 12, ground := Go.Ground.data }, { on := 0, ground := Go.Ground.phase }, { on := 1, ground := Go.Ground.phase }, { on := 2, ground := Go.Ground.phase }, { on := 3, ground := Go.Ground.phase }, { on := 4, ground := Go.Ground.phase }, { on := 5, ground := Go.Ground.phase }, { on := 6, ground := Go.Ground.phase }, { on := 7, ground := Go.Ground.phase }, { on := 8, ground := Go.Ground.phase }, { on := 9, ground := Go.Ground.phase }, { on := 10, ground := Go.Ground.phase }, { on := 11, ground := Go.Ground.phase }, { on := 12, ground := Go.Ground.phase }], guard := none }]
theorem sb_174_4_0 : softB op_174_4 #[true, true, true, true, true, true, true, true, true, true, true, true, true, true, true, true, false] (Array.replicate 17 false) 0 = true := by kernel_rfl
theorem sb_174_4_1 : softB op_174_4 #[true, true, true, true, true, true, true, true, true, true, true, true, true, true, true, true, false] ((Array.replicate 17 false).setIfInBounds 0 true) 1 = true := by kernel_rfl
theorem sb_174_4_2 : softB op_174_4 #[true, true, true, true, true, true, true, true, true, true, true, true, true, true, true, true, false] (((Array.replicate 17 false).setIfInBounds 0 true).setIfInBounds 1 true) 2 = true := by kernel_rfl
theorem sb_174_4_3 : softB op_174_4 #[true, true, true, true, true, true, true, true, true, true, true, true, true, true, true, true, false] ((((Array.replicate 17 false).setIfInBounds 0 true).setIfInBounds 1 true).setIfInBounds 2 true) 3 = true := by kernel_rfl
theorem sb_174_4_4 : softB op_174_4 #[true, true, true, true, true, true, true, true, true, true, true, true, true, true, true, true, false] (((((Array.replicate 17 false).setIfInBounds 0 true).setIfInBounds 1 true).setIfInBounds 2 true).setIfInBounds 3 true) 4 = true := by kernel_rfl
theorem sb_174_4_5 : softB op_174_4 #[true, true, true, true, true, true, true, true, true, true, true, true, true, true, true, true, false] ((((((Array.replicate 17 false).setIfInBounds 0 true).setIfInBounds 1 true).setIfInBounds 2 true).setIfInBounds 3 true).setIfInBounds 4 true) 5 = true := by kernel_rfl
theorem sb_174_4_6 : softB op_174_4 #[true, true, true, true, true, true, true, true, true, true, true, true, true, true, true, true, false] (((((((Array.replicate 17 false).setIfInBounds 0 true).setIfInBounds 1 true).setIfInBounds 2 true).setIfInBounds 3 true).setIfInBounds 4 true).setIfInBounds 5 true) 6 = true := by kernel_rfl
theorem sb_174_4_7 : softB op_174_4 #[true, true, true, true, true, true, true, true, true, true, true, true, true, true, true, true, false] ((((((((Array.replicate 17 false).setIfInBounds 0 true).setIfInBounds 1 true).setIfInBounds 2 true).setIfInBounds 3 true).setIfInBounds 4 true).setIfInBounds 5 true).setIfInBounds 6 true) 7 = true := by kernel_rfl
theorem sb_174_4_8 : softB op_174_4 #[true, true, true, true, true, true, true, true, true, true, true, true, true, true, true, true, false] (((((((((Array.replicate 17 false).setIfInBounds 0 true).setIfInBounds 1 true).setIfInBounds 2 true).setIfInBounds 3 true).setIfInBounds 4 true).setIfInBounds 5 true).setIfInBounds 6 true).setIfInBounds 7 true) 8 = true := by kernel_rfl
theorem sb_174_4_9 : softB op_174_4 #[true, true, true, true, true, true, true, true, true, true, true, true, true, true, true, true, false] ((((((((((Array.replicate 17 false).setIfInBounds 0 true).setIfInBounds 1 true).setIfInBounds 2 true).setIfInBounds 3 true).setIfInBounds 4 true).setIfInBounds 5 true).setIfInBounds 6 true).setIfInBounds 7 true).setIfInBounds 8 true) 9 = true := by kernel_rfl
theorem sb_174_4_10 : softB op_174_4 #[true, true, true, true, true, true, true, true, true, true, true, true, true, true, true, true, false] (((((((((((Array.replicate 17 false).setIfInBounds 0 true).setIfInBounds 1 true).setIfInBounds 2 true).setIfInBounds 3 true).setIfInBounds 4 true).setIfInBounds 5 true).setIfInBounds 6 true).setIfInBounds 7 true).setIfInBounds 8 true).setIfInBounds 9 true) 10 = true := by kernel_rfl
theorem sb_174_4_11 : softB op_174_4 #[true, true, true, true, true, true, true, true, true, true, true, true, true, true, true, true, false] ((((((((((((Array.replicate 17 false).setIfInBounds 0 true).setIfInBounds 1 true).setIfInBounds 2 true).setIfInBounds 3 true).setIfInBounds 4 true).setIfInBounds 5 true).setIfInBounds 6 true).setIfInBounds 7 true).setIfInBounds 8 true).setIfInBounds 9 true).setIfInBounds 10 true) 11 = true := by kernel_rfl
theorem sb_174_4_12 : softB op_174_4 #[true, true, true, true, true, true, true, true, true, true, true, true, true, true, true, true, false] (((((((((((((Array.replicate 17 false).setIfInBounds 0 true).setIfInBounds 1 true).setIfInBounds 2 true).setIfInBounds 3 true).setIfInBounds 4 true).setIfInBounds 5 true).setIfInBounds 6 true).setIfInBounds 7 true).setIfInBounds 8 true).setIfInBounds 9 true).setIfInBounds 10 true).setIfInBounds 11 true) 12 = true := by kernel_rfl
theorem sb_174_4_13 : softB op_174_4 #[true, true, true, true, true, true, true, true, true, true, true, true, true, true, true, true, false] ((((((((((((((Array.replicate 17 false).setIfInBounds 0 true).setIfInBounds 1 true).setIfInBounds 2 true).setIfInBounds 3 true).setIfInBounds 4 true).setIfInBounds 5 true).setIfInBounds 6 true).setIfInBounds 7 true).setIfInBounds 8 true).setIfInBounds 9 true).setIfInBounds 10 true).setIfInBounds 11 true).setIfInBounds 12 true) 13 = true := by kernel_rfl
theorem sb_174_4_14 : softB op_174_4 #[true, true, true, true, true, true, true, true, true, true, true, true, true, true, true, true, false] (((((((((((((((Array.replicate 17 false).setIfInBounds 0 true).setIfInBounds 1 true).setIfInBounds 2 true).setIfInBounds 3 true).setIfInBounds 4 true).setIfInBounds 5 true).setIfInBounds 6 true).setIfInBounds 7 true).setIfInBounds 8 true).setIfInBounds 9 true).setIfInBounds 10 true).setIfInBounds 11 true).setIfInBounds 12 true).setIfInBounds 13 true) 14 = true := by kernel_rfl
theorem sb_174_4_15 : softB op_174_4 #[true, true, true, true, true, true, true, true, true, true, true, true, true, true, true, true, false] ((((((((((((((((Array.replicate 17 false).setIfInBounds 0 true).setIfInBounds 1 true).setIfInBounds 2 true).setIfInBounds 3 true).setIfInBounds 4 true).setIfInBounds 5 true).setIfInBounds 6 true).setIfInBounds 7 true).setIfInBounds 8 true).setIfInBounds 9 true).setIfInBounds 10 true).setIfInBounds 11 true).setIfInBounds 12 true).setIfInBounds 13 true).setIfInBounds 14 true) 15 = true := by kernel_rfl
theorem sb_174_4_16 : hardB op_174_4 (((((((((((((((((Array.replicate 17 false).setIfInBounds 0 true).setIfInBounds 1 true).setIfInBounds 2 true).setIfInBounds 3 true).setIfInBounds 4 true).setIfInBounds 5 true).setIfInBounds 6 true).setIfInBounds 7 true).setIfInBounds 8 true).setIfInBounds 9 true).setIfInBounds 10 true).setIfInBounds 11 true).setIfInBounds 12 true).setIfInBounds 13 true).setIfInBounds 14 true).setIfInBounds 15 true) [16] = true := by kernel_rfl
theorem sb_174_4_17 : hardB op_174_4 ((((((((((((((((((Array.replicate 17 false).setIfInBounds 0 true).setIfInBounds 1 true).setIfInBounds 2 true).setIfInBounds 3 true).setIfInBounds 4 true).setIfInBounds 5 true).setIfInBounds 6 true).setIfInBounds 7 true).setIfInBounds 8 true).setIfInBounds 9 true).setIfInBounds 10 true).setIfInBounds 11 true).setIfInBounds 12 true).setIfInBounds 13 true).setIfInBounds 14 true).setIfInBounds 15 true).setIfInBounds 16 true) [] = true := by kernel_rfl
/- (*repo.Repo).setWork -/
def m174_w1 (n : Nat) (l : (List File)) (mm : Nat) : Int → RepoR → Option (Int × RepoR) := it2 (fun lp1 c1 z2 =>
cond ((decide (c1 < (l.length : Int))) && (decide (c1 < 8))) (
Option.bind (ixL l c1) fun x1 =>
Option.bind (ixL l c1) fun x2 =>
Option.bind (ckA c1 8) fun _ =>
nm ({ z2 with work := (upI z2.work c1 ({ File.zero with path := x1.path, data := x2.data })) } : RepoR) fun z6 =>
nm ({ z6 with n := (wi (c1 + 1)) } : RepoR) fun z7 =>
lp1 (wi (c1 + 1)) z7) (
some (c1, z2))) mm
def m174_w2 (n : Nat) (mm : Nat) : Int → RepoR → Option (Int × RepoR) := it2 (fun lp2 c3 z8 =>
cond (decide (c3 < 8)) (
Option.bind (ckA c3 8) fun _ =>
nm ({ z8 with work := (upI z8.work c3 File.zero) } : RepoR) fun z10 =>
lp2 (wi (c3 + 1)) z10) (
some (c3, z8))) mm
def m174 (n : Nat) (r : RepoR) (l : (List File)) : Option (RepoR) :=
nm ({ r with n := 0 } : RepoR) fun z1 =>
ob2 (m174_w1 n l n 0 z1) fun c2 z3 =>
ob2 (m174_w2 n n z3.n z3) fun c4 z9 =>
some z9
theorem t174 {n : Nat} {C : List Chunk} {rz1 : RepoR} {b1 : Nat} {r : RepoR} {q1 : Option Addr} {q2 : Option Addr} {q3 : Option Addr} {v1 : Value} {l : (List File)} (hr1 : Rd rFile C v1 l)  (hm : m174 n r l = some rz1) : Trip Tryz.prog 174 #[.pointer (some ⟨b1, 0, none⟩), v1] ([[(b1, .cells (RepoR.enc ((.pointer q1)) ((.pointer q2)) ((.pointer q3)) r).toArray 130 (0, 0))]] ++ [C]) (fun u S' => .tuple #[] = u ∧ S' = [[(b1, .cells (RepoR.enc ((.pointer q1)) ((.pointer q2)) ((.pointer q3)) rz1).toArray 130 (0, 0))]] ++ [C]) := by
  refine fn_entry (args := [.pointer (some ⟨b1, 0, none⟩), v1]) Tryz.func174 rfl Tryz.ntmps174 rfl (fun w0 => ?_)
  refine c_seq ?_
  refine c_region ?_
  refine o_T (y_move rfl) rfl ?_
  refine o_T (y_nilck rfl) rfl ?_
  refine o_T (y_fa fl_130_4 rfl) rfl ?_
  obtain ⟨z1, hn1, hm⟩ := nm_s hm
  refine o_stN one_3 rfl rfl rfl (Upd.z RepoR.u_n) r0 (show (RepoR.enc ((.pointer q1)) ((.pointer q2)) ((.pointer q3)) z1) = _ from by subst hn1; rfl) ?_
  refine o_nil0 rfl ?_
  refine c_seq ?_
  refine c_seq ?_
  refine c_region ?_
  refine o_L (y_assign rfl) rfl rfl ?_
  refine o_nil0 rfl ?_
  obtain ⟨c2, z3, hj1, hm⟩ := bd2 hm
  refine c_joinP (n := 1) (fun sh G => sh = [(4, .int .i64 c2)] ∧ G = [[(b1, .cells (RepoR.enc ((.pointer q1)) ((.pointer q2)) ((.pointer q3)) z3).toArray 130 (0, 0))]]) (s_take (s_take s_nil)) (.s .z) (fun _ _ h => h) ?_ ?_
  · skip
    refine c_block ?_
    refine c_loopP (n := 1) (fun mm sh G => ∃ (c1 : Int), ∃ (z2 : RepoR), sh = [(4, .int .i64 c1)] ∧ G = [[(b1, .cells (RepoR.enc ((.pointer q1)) ((.pointer q2)) ((.pointer q3)) z2).toArray 130 (0, 0))]] ∧ m174_w1 n l mm c1 z2 = some (c2, z3)) n (s_take (s_take s_nil)) (.s .z) ⟨_, _, ⟨_, _, rfl, rfl, hj1⟩, ⟨rfl, trivial⟩, _, (s_take (s_take s_nil))⟩ ?_
    rintro mm sh G ⟨c1, z2, rfl, rfl, hm⟩
    obtain ⟨mm1, rfl, hm⟩ := it2_s hm
    refine c_seq ?_
    refine c_seq ?_
    refine c_joinP (n := 0) (fun sh G => sh = [(16, .bool ((decide (c1 < (l.length : Int))) && (decide (c1 < 8))))] ∧ G = []) Sel.all' .z (fun _ _ h => h) ?_ ?_
    · skip
      refine c_region ?_
      refine o_T (y_move rfl) rfl ?_
      refine o_T (y_move rfl) rfl ?_
      refine o_T (y_lenR hr1 Tryz.underlying57 rfl) rfl ?_
      refine o_T (y_lss rfl rfl) rfl ?_
      refine o_T (y_move rfl) rfl ?_
      refine o_split 13 rfl (fun h1 => ?_) (fun h1 => ?_)
      · skip
        refine o_take rfl rfl rfl ?_
        refine o_T (y_move rfl) rfl ?_
        refine o_take rfl rfl rfl ?_
        refine o_T (y_lss rfl rfl) rfl ?_
        refine o_T (y_pickT rfl rfl) rfl ?_
        refine o_nil1 16 rfl rfl ?_
        refine ⟨_, _, ⟨rfl, rfl⟩, ⟨by first | rfl | exact gtb rfl (by simp only [h1, Bool.true_and, Bool.false_and, Bool.true_or, Bool.false_or, Bool.and_true, Bool.and_false, Bool.or_true, Bool.or_false, Bool.not_true, Bool.not_false]), trivial⟩, ⟨rfl, rfl⟩, _, (s_take (s_take s_nil))⟩
      · skip
        refine o_pass rfl rfl rfl rfl rfl ?_
        refine o_pass rfl rfl rfl rfl rfl ?_
        refine o_T (y_pickF rfl rfl) rfl ?_
        refine o_nil1 16 rfl rfl ?_
        refine ⟨_, _, ⟨rfl, rfl⟩, ⟨by first | rfl | exact gtb rfl (by simp only [h1, Bool.true_and, Bool.false_and, Bool.true_or, Bool.false_or, Bool.and_true, Bool.and_false, Bool.or_true, Bool.or_false, Bool.not_true, Bool.not_false]), trivial⟩, ⟨rfl, rfl⟩, _, (s_take (s_take s_nil))⟩
    · rintro sh G ⟨rfl, rfl⟩
      refine c_cond rfl (fun h2 => ?_) (fun h2 => ?_)
      · have hm := cd_t h2 hm
        refine c_skip ?_
        refine c_seq ?_
        refine c_block ?_
        refine c_seq ?_
        refine c_draw #[true, true, true, true, true, true, true, true, true, true, true, true, true, true, true, true, false] rfl (n := 17) rfl ?_
        refine d_T 0 rfl sb_174_4_0 rfl (y_move rfl) rfl ?_
        refine d_T 1 rfl sb_174_4_1 rfl (y_move rfl) rfl ?_
        refine d_T 2 rfl sb_174_4_2 rfl (y_move rfl) rfl ?_
        refine d_T 3 rfl sb_174_4_3 rfl (y_move rfl) rfl ?_
        obtain ⟨x1, hx1, hm⟩ := bd hm
        obtain ⟨b2, w1, cs1, y1, z4, vs1, hc1, ha1, hr2, hy1⟩ := hr1.ix hx1
        obtain rfl : vs1 = File.enc x1 := hr2
        refine d_T 4 rfl sb_174_4_4 rfl (hy1 sl_57 rfl rfl rfl) rfl ?_
        refine d_T 5 rfl sb_174_4_5 rfl (y_fa fl_71_0 rfl) rfl ?_
        refine d_ld 6 rfl sb_174_4_6 one_9 rfl (fun x hx => hx) (ms (mg hc1)) (At.getA (ha1.comp File.a_path)) rfl ?_
        refine d_T 7 rfl sb_174_4_7 rfl (y_move rfl) rfl ?_
        refine d_T 8 rfl sb_174_4_8 rfl (y_move rfl) rfl ?_
        obtain ⟨x2, hx2, hm⟩ := bd hm
        obtain ⟨b3, w2, cs2, y2, z5, vs2, hc2, ha2, hr3, hy2⟩ := hr1.ix hx2
        obtain rfl : vs2 = File.enc x2 := hr3
        refine d_T 9 rfl sb_174_4_9 rfl (hy2 sl_57 rfl rfl rfl) rfl ?_
        refine d_T 10 rfl sb_174_4_10 rfl (y_fa fl_71_1 rfl) rfl ?_
        refine d_ld 11 rfl sb_174_4_11 one_9 rfl (fun x hx => hx) (ms (mg hc2)) (At.getA (ha2.comp File.a_data)) rfl ?_
        refine d_T 12 rfl sb_174_4_12 rfl (y_build st_71 rfl (fbU rfl File.u_path rfl rfl (fbU rfl File.u_data rfl rfl fbU0))) rfl ?_
        refine d_T 13 rfl sb_174_4_13 rfl (y_nilck rfl) rfl ?_
        refine d_T 14 rfl sb_174_4_14 rfl (y_fa fl_130_3 rfl) rfl ?_
        obtain ⟨_, hx3, hm⟩ := bd hm
        have hx3 := ckA_some hx3
        refine d_T 15 rfl sb_174_4_15 rfl (y_ia ar_128 rfl rfl hx3.1 hx3.2) rfl ?_
        refine d_hard 16 rfl sb_174_4_16 ?_
        obtain ⟨z6, hn2, hm⟩ := nm_s hm
        refine o_stNA ag_71 rfl rfl (File.plain _) (File.len _) ((Upd.z RepoR.u_work).comp (encN_u File.len _ _ _ hx3.1 _ hx3.2)) r0 (show (RepoR.enc ((.pointer q1)) ((.pointer q2)) ((.pointer q3)) z6) = _ from by subst hn2; rfl) ?_
        refine o_stop (fun h => nomatch h) ?_
        refine d_nil0 sb_174_4_17 rfl ?_
        refine c_region ?_
        refine o_T (y_move rfl) rfl ?_
        refine o_T (y_move rfl) rfl ?_
        refine o_T (y_add rfl rfl rfl) rfl ?_
        refine o_T (y_nilck rfl) rfl ?_
        refine o_T (y_fa fl_130_4 rfl) rfl ?_
        obtain ⟨z7, hn3, hm⟩ := nm_s hm
        refine o_stN one_3 rfl rfl rfl (Upd.z RepoR.u_n) r0 (show (RepoR.enc ((.pointer q1)) ((.pointer q2)) ((.pointer q3)) z7) = _ from by subst hn3; rfl) ?_
        refine o_nil0 rfl ?_
        refine c_region ?_
        refine o_T (y_move rfl) rfl ?_
        refine o_T (y_add rfl rfl rfl) rfl ?_
        refine o_L (y_assign rfl) rfl rfl ?_
        refine o_nil0 rfl ?_
        exact ⟨mm1, Nat.lt_succ_self _, _, _, ⟨_, _, rfl, rfl, hm⟩, ⟨rfl, trivial⟩, ⟨rfl, rfl⟩, _, (s_take (s_take s_nil))⟩
      · have hm := cd_f h2 hm
        refine c_exit ?_
        obtain ⟨rfl, rfl⟩ := pr2 hm
        exact ⟨_, _, ⟨rfl, rfl⟩, ⟨rfl, trivial⟩, ⟨rfl, rfl⟩, _, (s_take (s_take s_nil))⟩
  · rintro sh G ⟨rfl, rfl⟩
    refine c_seq ?_
    refine c_region ?_
    refine o_T (y_move rfl) rfl ?_
    refine o_T (y_nilck rfl) rfl ?_
    refine o_T (y_fa fl_130_4 rfl) rfl ?_
    refine o_ld one_3 rfl m0 (At.got (At.refl.comp RepoR.a_n)) rfl ?_
    refine o_L (y_assign rfl) rfl rfl ?_
    refine o_nil0 rfl ?_
    obtain ⟨c4, z9, hj2, hm⟩ := bd2 hm
    have hk2 := hm
    refine c_block ?_
    refine c_loopP (n := 1) (fun mm sh G => ∃ (c3 : Int), ∃ (z8 : RepoR), sh = [(5, .int .i64 c3)] ∧ G = [[(b1, .cells (RepoR.enc ((.pointer q1)) ((.pointer q2)) ((.pointer q3)) z8).toArray 130 (0, 0))]] ∧ m174_w2 n mm c3 z8 = some (c4, z9)) n (s_take (s_take s_nil)) (.s .z) ⟨_, _, ⟨_, _, rfl, rfl, hj2⟩, ⟨rfl, trivial⟩, _, (s_take (s_take s_nil))⟩ ?_
    rintro mm sh G ⟨c3, z8, rfl, rfl, hm⟩
    obtain ⟨mm2, rfl, hm⟩ := it2_s hm
    refine c_seq ?_
    refine c_seq ?_
    refine c_region ?_
    refine o_T (y_move rfl) rfl ?_
    refine o_T (y_lss rfl rfl) rfl ?_
    refine o_nil1 45 rfl rfl ?_
    refine c_cond rfl (fun h3 => ?_) (fun h3 => ?_)
    · have hm := cd_t h3 hm
      refine c_skip ?_
      refine c_seq ?_
      refine c_block ?_
      refine c_region ?_
      refine o_T (y_move rfl) rfl ?_
      refine o_T (y_move rfl) rfl ?_
      refine o_T (y_build st_71 rfl fbU0) rfl ?_
      refine o_T (y_nilck rfl) rfl ?_
      refine o_T (y_fa fl_130_3 rfl) rfl ?_
      obtain ⟨_, hx4, hm⟩ := bd hm
      have hx4 := ckA_some hx4
      refine o_T (y_ia ar_128 rfl rfl hx4.1 hx4.2) rfl ?_
      obtain ⟨z10, hn4, hm⟩ := nm_s hm
      refine o_stNA ag_71 rfl rfl (File.plain _) (File.len _) ((Upd.z RepoR.u_work).comp (encN_u File.len _ _ _ hx4.1 _ hx4.2)) r0 (show (RepoR.enc ((.pointer q1)) ((.pointer q2)) ((.pointer q3)) z10) = _ from by subst hn4; rfl) ?_
      refine o_nil0 rfl ?_
      refine c_region ?_
      refine o_T (y_move rfl) rfl ?_
      refine o_T (y_add rfl rfl rfl) rfl ?_
      refine o_L (y_assign rfl) rfl rfl ?_
      refine o_nil0 rfl ?_
      exact ⟨mm2, Nat.lt_succ_self _, _, _, ⟨_, _, rfl, rfl, hm⟩, ⟨rfl, trivial⟩, ⟨rfl, rfl⟩, _, (s_take (s_take s_nil))⟩
    · have hm := cd_f h3 hm
      refine c_exit ?_
      obtain ⟨rfl, rfl⟩ := pr2 hm
      have hm := hk2
      obtain rfl := p1 hm
      refine fun aX wX heX hsX => ret0 Tryz.results174 (s_take (s_take s_nil)) ?_
      exact ⟨rfl, rfl⟩
end Go.Proofs.Qxb6500350aGreat
