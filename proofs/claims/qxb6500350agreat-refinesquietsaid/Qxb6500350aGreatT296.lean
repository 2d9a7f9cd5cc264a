/- MADE BY PROGRAM (tools350/mir.py): mirror and walk. -/
import Derived.Test.Qxb6500350aGreatF2
import Derived.Test.Qxb6500350aGreatT266
set_option linter.unusedVariables false
set_option linter.unusedSimpArgs false
set_option maxRecDepth 20000
set_option maxHeartbeats 4000000
namespace Go.Proofs.Qxb6500350aGreat
open Go.Eng

def op_296_9 : Array Go.Oper := #[{ dst := some 47, op := Go.Op.move (Go.Operand.tmp 0), type := 31, pos := "pool.go:104", after := #[], guard := none }, { dst := some 48, op := Go.Op.move (Go.Operand.tmp 12), type := 3, pos := "pool.go:104", after := #[], guard := none }, { dst := some 49, op := Go.Op.nilCheck (Go.Operand.tmp 47), type := 0, pos := "pool.go:104", after := #[{ on := 0, ground := Go.Ground.data }], guard := none }, { dst := some 50, op := Go.Op.fieldAddr 184 (Go.Operand.tmp 49) 0, type := 0, pos := "pool.go:104", after := #[{ on := 2, ground := Go.Ground.data }], guard := none }, { dst := some 51, op := Go.Op.indexAddr 182 (Go.Operand.tmp 50) (Go.Operand.tmp 48), type := 0, pos := "pool.go:104", after := #[{ on := 3, ground := Go.Ground.data }, { on := 1, ground := Go.Ground.data }], guard := none }, { dst := some 52, op := Go.Op.fieldAddr 181 (Go.Operand.tmp 51) 0, type := 0, pos := "pool.go:104", after := #[{ on := 4, ground := Go.Ground.data }], guard := none }, { dst := some 53, op := Go.Op.load 9 (Go.Operand.tmp 52), type := 9, pos := "pool.go:104", after := #[{ on := 5, ground := Go.Ground.data }], guard := none }, { dst := some 54, op := Go.Op.move (Go.Operand.tmp 0), type := 31, pos := "pool.go:104", after := #[], guard := none }, { dst := some 55, op := Go.Op.move (Go.Operand.tmp 12), type := 3, pos := "pool.go:104", after := #[], guard := none }, { dst := some 56, op := Go.Op.nilCheck (Go.Operand.tmp 54), type := 0, pos := "pool.go:104", after := #[{ on := 7, ground := Go.Ground.data }], guard := none }, { dst := some 57, op := Go.Op.fieldAddr 184 (Go.Operand.tmp 56) 0, type := 0, pos := "pool.go:104", after := #[{ on := 9, ground := Go.Ground.data }], guard := none }, { dst := some 58, op := Go.Op.indexAddr 182 (Go.Operand.tmp 57) (Go.Operand.tmp 55), type := 0, pos := "pool.go:104", after := #[{ on := 10, ground := Go.Ground.data }, { on := 8, ground := Go.Ground.data }], guard := none }, { dst := some 59, op := Go.Op.fieldAddr 181 (Go.Operand.tmp 58) 3, type := 0, pos := "pool.go:104", after := #[{ on := 11, ground := Go.Ground.data }], guard := none }, { dst := some 60, op := Go.Op.load 4 (Go.Operand.tmp 59), type := 4, pos := "pool.go:104", after := #[{ on := 12, ground := Go.Ground.data }], guard := none }, { dst := some 61, op := Go.Op.call { callee := Go.Callee.value (Go.Operand.func 266), args := #[Go.Operand.tmp 53, Go.Operand.tmp 60], argTypes := #[9, 4] }, type := 9, pos := "pool.go:104", after := #[{ on := 6, ground := Go.Ground.data }, { on := 13, ground := Go.Ground.data }], guard := none }, { dst := some 14, op := Go.Op.assign (Go.Operand.tmp 61), type := 9, pos := "pool.go:104", after := #[{ on := 14, ground := Go.Ground.data }, { on := 14, ground := Go.Ground.chain }, { on := 0, ground := Go.Ground.phase }, { on := 1, ground := Go.Ground.phase }, { on := 2, ground := Go.Ground.phase }, { on := 3, ground := Go.Ground.phase }, { on := 4, ground := Go.Ground.phase }, { on := 5, ground := Go.Ground.phase }, { on := 6, ground := Go.Ground.phase }, { on := 7, ground := Go.Ground.phase }, { on := 8, ground := Go.Ground.phase }, { on := 9, ground := Go.Ground.phase }, { on := 10, ground := Go.Ground.phase }, { on := 11, ground := Go.Ground.phase }, { on := 12, ground := Go.Ground.phase }, { on := 13, ground := Go.Ground.phase }, { on := 14, ground := Go.Ground.phase }], guard := none }]
theorem sb_296_9_0 : softB op_296_9 #[true, true, true, true, true, true, true, true, true, true, true, true, true, true, false, true] (Array.replicate 16 false) 0 = true := by kernel_rfl
theorem sb_296_9_1 : softB op_296_9 #[true, true, true, true, true, true, true, true, true, true, true, true, true, true, false, true] ((Array.replicate 16 false).setIfInBounds 0 true) 1 = true := by kernel_rfl
theorem sb_296_9_2 : softB op_296_9 #[true, true, true, true, true, true, true, true, true, true, true, true, true, true, false, true] (((Array.replicate 16 false).setIfInBounds 0 true).setIfInBounds 1 true) 2 = true := by kernel_rfl
theorem sb_296_9_3 : softB op_296_9 #[true, true, true, true, true, true, true, true, true, true, true, true, true, true, false, true] ((((Array.replicate 16 false).setIfInBounds 0 true).setIfInBounds 1 true).setIfInBounds 2 true) 3 = true := by kernel_rfl
theorem sb_296_9_4 : softB op_296_9 #[true, true, true, true, true, true, true, true, true, true, true, true, true, true, false, true] (((((Array.replicate 16 false).setIfInBounds 0 true).setIfInBounds 1 true).setIfInBounds 2 true).setIfInBounds 3 true) 4 = true := by kernel_rfl
theorem sb_296_9_5 : softB op_296_9 #[true, true, true, true, true, true, true, true, true, true, true, true, true, true, false, true] ((((((Array.replicate 16 false).setIfInBounds 0 true).setIfInBounds 1 true).setIfInBounds 2 true).setIfInBounds 3 true).setIfInBounds 4 true) 5 = true := by kernel_rfl
theorem sb_296_9_6 : softB op_296_9 #[true, true, true, true, true, true, true, true, true, true, true, true, true, true, false, true] (((((((Array.replicate 16 false).setIfInBounds 0 true).setIfInBounds 1 true).setIfInBounds 2 true).setIfInBounds 3 true).setIfInBounds 4 true).setIfInBounds 5 true) 6 = true := by kernel_rfl
theorem sb_296_9_7 : softB op_296_9 #[true, true, true, true, true, true, true, true, true, true, true, true, true, true, false, true] ((((((((Array.replicate 16 false).setIfInBounds 0 true).setIfInBounds 1 true).setIfInBounds 2 true).setIfInBounds 3 true).setIfInBounds 4 true).setIfInBounds 5 true).setIfInBounds 6 true) 7 = true := by kernel_rfl
theorem sb_296_9_8 : softB op_296_9 #[true, true, true, true, true, true, true, true, true, true, true, true, true, true, false, true] (((((((((Array.replicate 16 false).setIfInBounds 0 true).setIfInBounds 1 true).setIfInBounds 2 true).setIfInBounds 3 true).setIfInBounds 4 true).setIfInBounds 5 true).setIfInBounds 6 true).setIfInBounds 7 true) 8 = true := by kernel_rfl
theorem sb_296_9_9 : softB op_296_9 #[true, true, true, true, true, true, true, true, true, true, true, true, true, true, false, true] ((((((((((Array.replicate 16 false).setIfInBounds 0 true).setIfInBounds 1 true).setIfInBounds 2 true).setIfInBounds 3 true).setIfInBounds 4 true).setIfInBounds 5 true).setIfInBounds 6 true).setIfInBounds 7 true).setIfInBounds 8 true) 9 = true := by kernel_rfl
theorem sb_296_9_10 : softB op_296_9 #[true, true, true, true, true, true, true, true, true, true, true, true, true, true, false, true] (((((((((((Array.replicate 16 false).setIfInBounds 0 true).setIfInBounds 1 true).setIfInBounds 2 true).setIfInBounds 3 true).setIfInBounds 4 true).setIfInBounds 5 true).setIfInBounds 6 true).setIfInBounds 7 true).setIfInBounds 8 true).setIfInBounds 9 true) 10 = true := by kernel_rfl
theorem sb_296_9_11 : softB op_296_9 #[true, true, true, true, true, true, true, true, true, true, true, true, true, true, false, true] ((((((((((((Array.replicate 16 false).setIfInBounds 0 true).setIfInBounds 1 true).setIfInBounds 2 true).setIfInBounds 3 true).setIfInBounds 4 true).setIfInBounds 5 true).setIfInBounds 6 true).setIfInBounds 7 true).setIfInBounds 8 true).setIfInBounds 9 true).setIfInBounds 10 true) 11 = true := by kernel_rfl
theorem sb_296_9_12 : softB op_296_9 #[true, true, true, true, true, true, true, true, true, true, true, true, true, true, false, true] (((((((((((((Array.replicate 16 false).setIfInBounds 0 true).setIfInBounds 1 true).setIfInBounds 2 true).setIfInBounds 3 true).setIfInBounds 4 true).setIfInBounds 5 true).setIfInBounds 6 true).setIfInBounds 7 true).setIfInBounds 8 true).setIfInBounds 9 true).setIfInBounds 10 true).setIfInBounds 11 true) 12 = true := by kernel_rfl
theorem sb_296_9_13 : softB op_296_9 #[true, true, true, true, true, true, true, true, true, true, true, true, true, true, false, true] ((((((((((((((Array.replicate 16 false).setIfInBounds 0 true).setIfInBounds 1 true).setIfInBounds 2 true).setIfInBounds 3 true).setIfInBounds 4 true).setIfInBounds 5 true).setIfInBounds 6 true).setIfInBounds 7 true).setIfInBounds 8 true).setIfInBounds 9 true).setIfInBounds 10 true).setIfInBounds 11 true).setIfInBounds 12 true) 13 = true := by kernel_rfl
theorem sb_296_9_14 : hardB op_296_9 (((((((((((((((Array.replicate 16 false).setIfInBounds 0 true).setIfInBounds 1 true).setIfInBounds 2 true).setIfInBounds 3 true).setIfInBounds 4 true).setIfInBounds 5 true).setIfInBounds 6 true).setIfInBounds 7 true).setIfInBounds 8 true).setIfInBounds 9 true).setIfInBounds 10 true).setIfInBounds 11 true).setIfInBounds 12 true).setIfInBounds 13 true) [14] = true := by kernel_rfl
theorem sb_296_9_15 : softB op_296_9 #[true, true, true, true, true, true, true, true, true, true, true, true, true, true, false, true] ((((((((((((((((Array.replicate 16 false).setIfInBounds 0 true).setIfInBounds 1 true).setIfInBounds 2 true).setIfInBounds 3 true).setIfInBounds 4 true).setIfInBounds 5 true).setIfInBounds 6 true).setIfInBounds 7 true).setIfInBounds 8 true).setIfInBounds 9 true).setIfInBounds 10 true).setIfInBounds 11 true).setIfInBounds 12 true).setIfInBounds 13 true).setIfInBounds 14 true) 15 = true := by kernel_rfl
theorem sb_296_9_16 : hardB op_296_9 (((((((((((((((((Array.replicate 16 false).setIfInBounds 0 true).setIfInBounds 1 true).setIfInBounds 2 true).setIfInBounds 3 true).setIfInBounds 4 true).setIfInBounds 5 true).setIfInBounds 6 true).setIfInBounds 7 true).setIfInBounds 8 true).setIfInBounds 9 true).setIfInBounds 10 true).setIfInBounds 11 true).setIfInBounds 12 true).setIfInBounds 13 true).setIfInBounds 14 true).setIfInBounds 15 true) [] = true := by kernel_rfl
/- (*index.Index).link -/
def m296_w1 (n : Nat) (name : Str) (file : Bool) (z1 : Index) (c1 : Str) (mm : Nat) : Int → Int → Int → Option (Int × Int × Int) := it3 (fun lp1 c2 c3 c4 =>
cond ((decide (c4 < 49)) && (decide (¬ (c3 = 0)))) (
Option.bind (ckA c3 49) fun _ =>
Option.bind (ckA c3 49) fun _ =>
ob1 (m266 n ((z1.pool c3).name) ((z1.pool c3).file)) fun c8 =>
cond (!(sLt c8 c1 || decide (c8 = c1))) (
some (c2, c3, c4)) (
Option.bind (ckA c3 49) fun _ =>
lp1 c3 ((z1.pool c3).nxt) (wi (c4 + 1)))) (
some (c2, c3, c4))) mm
def m296 (n : Nat) (x : Index) (d : Int) (name : Str) (file : Bool) : Option (Int × Index) :=
Option.bind (ckA x.free 49) fun _ =>
nm ({ x with free := (x.pool x.free).nxt } : Index) fun z1 =>
ob1 (m266 n name file) fun c1 =>
Option.bind (ckA d 49) fun _ =>
ob3 (m296_w1 n name file z1 c1 n 0 ((z1.pool d).child) 0) fun c5 c6 c7 =>
Option.bind (ckA x.free 49) fun _ =>
nm ({ z1 with pool := (upI z1.pool x.free ({ Nod.zero with name := name, file := file, nxt := c6 })) } : Index) fun z2 =>
cond (decide (c5 = 0)) (
Option.bind (ckA d 49) fun _ =>
nm ({ z2 with pool := (upI z2.pool d { (z2.pool d) with child := x.free }) } : Index) fun z3 =>
some (x.free, z3)) (
Option.bind (ckA c5 49) fun _ =>
nm ({ z2 with pool := (upI z2.pool c5 { (z2.pool c5) with nxt := x.free }) } : Index) fun z4 =>
some (x.free, z4))
theorem t296 {n : Nat} {C : List Chunk} {rc1 : Int} {rz1 : Index} {b1 : Nat} {x : Index} {d : Int} {name : Str} {file : Bool}   (hm : m296 n x d name file = some (rc1, rz1)) : Trip Tryz.prog 296 #[.pointer (some ⟨b1, 0, none⟩), .int .i64 d, .string ⟨(name : Str).toArray⟩, .bool file] ([[(b1, .cells (Index.enc x).toArray 184 (0, 0))]] ++ [C]) (fun u S' => .int .i64 rc1 = u ∧ S' = [[(b1, .cells (Index.enc rz1).toArray 184 (0, 0))]] ++ [C]) := by
  refine fn_entry (args := [.pointer (some ⟨b1, 0, none⟩), .int .i64 d, .string ⟨(name : Str).toArray⟩, .bool file]) Tryz.func296 rfl Tryz.ntmps296 rfl (fun w0 => ?_)
  refine c_seq ?_
  refine c_region ?_
  refine o_L (y_assign rfl) rfl rfl ?_
  refine o_nil0 rfl ?_
  refine c_seq ?_
  refine c_region ?_
  refine o_T (y_move rfl) rfl ?_
  refine o_T (y_nilck rfl) rfl ?_
  refine o_T (y_fa fl_184_1 rfl) rfl ?_
  refine o_ld one_3 rfl m0 (At.got (At.refl.comp Index.a_free)) rfl ?_
  refine o_L (y_assign rfl) rfl rfl ?_
  refine o_nil0 rfl ?_
  refine c_seq ?_
  refine c_region ?_
  refine o_T (y_move rfl) rfl ?_
  refine o_T (y_move rfl) rfl ?_
  refine o_T (y_move rfl) rfl ?_
  refine o_T (y_nilck rfl) rfl ?_
  refine o_T (y_fa fl_184_0 rfl) rfl ?_
  obtain ⟨_, hx1, hm⟩ := bd hm
  have hx1 := ckA_some hx1
  refine o_T (y_ia ar_182 rfl rfl hx1.1 hx1.2) rfl ?_
  refine o_T (y_fa fl_181_2 rfl) rfl ?_
  refine o_ld one_3 rfl m0 (At.got (((At.refl.comp Index.a_pool).comp (encN_a Nod.len _ _ hx1.1 _ hx1.2)).comp Nod.a_nxt)) rfl ?_
  refine o_T (y_nilck rfl) rfl ?_
  refine o_T (y_fa fl_184_1 rfl) rfl ?_
  obtain ⟨z1, hn1, hm⟩ := nm_s hm
  refine o_stN one_3 rfl rfl rfl (Upd.z Index.u_free) r0 (show (Index.enc z1) = _ from by subst hn1; rfl) ?_
  refine o_nil0 rfl ?_
  refine c_seq ?_
  refine c_region ?_
  refine o_T (y_move rfl) rfl ?_
  refine o_T (y_move rfl) rfl ?_
  obtain ⟨c1, hx2, hm⟩ := bd1 hm
  refine o_callC en_266 rfl s_nil (t266 hx2) rfl (fun u1 S1 hR1 => ?_)
  obtain ⟨rfl, rfl⟩ := hR1
  refine o_rest ?_
  refine o_L (y_assign rfl) rfl rfl ?_
  refine o_nil0 rfl ?_
  refine c_seq ?_
  refine c_region ?_
  refine o_L (y_assign rfl) rfl rfl ?_
  refine o_nil0 rfl ?_
  refine c_seq ?_
  refine c_region ?_
  refine o_T (y_move rfl) rfl ?_
  refine o_T (y_move rfl) rfl ?_
  refine o_T (y_nilck rfl) rfl ?_
  refine o_T (y_fa fl_184_0 rfl) rfl ?_
  obtain ⟨_, hx3, hm⟩ := bd hm
  have hx3 := ckA_some hx3
  refine o_T (y_ia ar_182 rfl rfl hx3.1 hx3.2) rfl ?_
  refine o_T (y_fa fl_181_1 rfl) rfl ?_
  refine o_ld one_3 rfl m0 (At.got (((At.refl.comp Index.a_pool).comp (encN_a Nod.len _ _ hx3.1 _ hx3.2)).comp Nod.a_child)) rfl ?_
  refine o_L (y_assign rfl) rfl rfl ?_
  refine o_nil0 rfl ?_
  refine c_seq ?_
  refine c_seq ?_
  refine c_region ?_
  refine o_L (y_assign rfl) rfl rfl ?_
  refine o_nil0 rfl ?_
  obtain ⟨c5, c6, c7, hj1, hm⟩ := bd3 hm
  refine c_joinP (n := 0) (fun sh G => sh = [(11, .int .i64 c5), (12, .int .i64 c6), (13, .int .i64 c7)] ∧ G = []) (s_take (s_take s_nil)) .z (fun _ _ h => h) ?_ ?_
  · skip
    refine c_block ?_
    refine c_loopP (n := 0) (fun mm sh G => ∃ (c2 : Int), ∃ (c3 : Int), ∃ (c4 : Int), sh = [(11, .int .i64 c2), (12, .int .i64 c3), (13, .int .i64 c4)] ∧ G = [] ∧ m296_w1 n name file z1 c1 mm c2 c3 c4 = some (c5, c6, c7)) n (s_take (s_take s_nil)) .z ⟨_, _, ⟨_, _, _, rfl, rfl, hj1⟩, ⟨rfl, rfl, rfl, trivial⟩, _, (s_take (s_take s_nil))⟩ ?_
    rintro mm sh G ⟨c2, c3, c4, rfl, rfl, hm⟩
    obtain ⟨mm1, rfl, hm⟩ := it3_s hm
    refine c_seq ?_
    refine c_seq ?_
    refine c_joinP (n := 0) (fun sh G => sh = [(44, .bool ((decide (c4 < 49)) && (decide (¬ (c3 = 0)))))] ∧ G = []) Sel.all' .z (fun _ _ h => h) ?_ ?_
    · skip
      refine c_region ?_
      refine o_T (y_move rfl) rfl ?_
      refine o_T (y_lss rfl rfl) rfl ?_
      refine o_T (y_move rfl) rfl ?_
      refine o_split 41 rfl (fun h1 => ?_) (fun h1 => ?_)
      · skip
        refine o_take rfl rfl rfl ?_
        refine o_T (y_move rfl) rfl ?_
        refine o_take rfl rfl rfl ?_
        refine o_T (y_neq rfl rfl) rfl ?_
        refine o_T (y_pickT rfl rfl) rfl ?_
        refine o_nil1 44 rfl rfl ?_
        refine ⟨_, _, ⟨rfl, rfl⟩, ⟨by first | rfl | exact gtb rfl (by simp only [h1, Bool.true_and, Bool.false_and, Bool.true_or, Bool.false_or, Bool.and_true, Bool.and_false, Bool.or_true, Bool.or_false, Bool.not_true, Bool.not_false]), trivial⟩, ⟨rfl, rfl⟩, _, (s_take (s_take s_nil))⟩
      · skip
        refine o_pass rfl rfl rfl rfl rfl ?_
        refine o_pass rfl rfl rfl rfl rfl ?_
        refine o_T (y_pickF rfl rfl) rfl ?_
        refine o_nil1 44 rfl rfl ?_
        refine ⟨_, _, ⟨rfl, rfl⟩, ⟨by first | rfl | exact gtb rfl (by simp only [h1, Bool.true_and, Bool.false_and, Bool.true_or, Bool.false_or, Bool.and_true, Bool.and_false, Bool.or_true, Bool.or_false, Bool.not_true, Bool.not_false]), trivial⟩, ⟨rfl, rfl⟩, _, (s_take (s_take s_nil))⟩
    · rintro sh G ⟨rfl, rfl⟩
      refine c_cond rfl (fun h2 => ?_) (fun h2 => ?_)
      · have hm := cd_t h2 hm
        refine c_skip ?_
        refine c_seq ?_
        refine c_block ?_
        refine c_seq ?_
        refine c_draw #[true, true, true, true, true, true, true, true, true, true, true, true, true, true, false, true] rfl (n := 16) rfl ?_
        refine d_T 0 rfl sb_296_9_0 rfl (y_move rfl) rfl ?_
        refine d_T 1 rfl sb_296_9_1 rfl (y_move rfl) rfl ?_
        refine d_T 2 rfl sb_296_9_2 rfl (y_nilck rfl) rfl ?_
        refine d_T 3 rfl sb_296_9_3 rfl (y_fa fl_184_0 rfl) rfl ?_
        obtain ⟨_, hx4, hm⟩ := bd hm
        have hx4 := ckA_some hx4
        refine d_T 4 rfl sb_296_9_4 rfl (y_ia ar_182 rfl rfl hx4.1 hx4.2) rfl ?_
        refine d_T 5 rfl sb_296_9_5 rfl (y_fa fl_181_0 rfl) rfl ?_
        refine d_ld 6 rfl sb_296_9_6 one_9 rfl (fun x hx => hx) m0 (At.got (((At.refl.comp Index.a_pool).comp (encN_a Nod.len _ _ hx4.1 _ hx4.2)).comp Nod.a_name)) rfl ?_
        refine d_T 7 rfl sb_296_9_7 rfl (y_move rfl) rfl ?_
        refine d_T 8 rfl sb_296_9_8 rfl (y_move rfl) rfl ?_
        refine d_T 9 rfl sb_296_9_9 rfl (y_nilck rfl) rfl ?_
        refine d_T 10 rfl sb_296_9_10 rfl (y_fa fl_184_0 rfl) rfl ?_
        obtain ⟨_, hx5, hm⟩ := bd hm
        have hx5 := ckA_some hx5
        refine d_T 11 rfl sb_296_9_11 rfl (y_ia ar_182 rfl rfl hx5.1 hx5.2) rfl ?_
        refine d_T 12 rfl sb_296_9_12 rfl (y_fa fl_181_3 rfl) rfl ?_
        refine d_ld 13 rfl sb_296_9_13 one_4 rfl (fun x hx => hx) m0 (At.got (((At.refl.comp Index.a_pool).comp (encN_a Nod.len _ _ hx5.1 _ hx5.2)).comp Nod.a_file)) rfl ?_
        refine d_hard 14 rfl sb_296_9_14 ?_
        obtain ⟨c8, hx6, hm⟩ := bd1 hm
        refine o_callC en_266 rfl s_nil (t266 hx6) rfl (fun u2 S2 hR2 => ?_)
        obtain ⟨rfl, rfl⟩ := hR2
        refine o_rest ?_
        refine o_stop (fun h => nomatch h) ?_
        refine d_L 15 rfl sb_296_9_15 rfl (y_assign rfl) rfl rfl ?_
        refine d_nil0 sb_296_9_16 rfl ?_
        refine c_seq ?_
        refine c_seq ?_
        refine c_region ?_
        refine o_T (y_move rfl) rfl ?_
        refine o_T (y_move rfl) rfl ?_
        refine o_T (y_sgt rfl rfl) rfl ?_
        refine o_nil1 64 rfl rfl ?_
        refine c_cond rfl (fun h3 => ?_) (fun h3 => ?_)
        · have hm := cd_t h3 hm
          refine c_exit ?_
          obtain ⟨rfl, rfl, rfl⟩ := pr3 hm
          exact ⟨_, _, ⟨rfl, rfl⟩, ⟨rfl, rfl, rfl, trivial⟩, ⟨rfl, rfl⟩, _, (s_take (s_take s_nil))⟩
        · have hm := cd_f h3 hm
          refine c_skip ?_
          refine c_seq ?_
          refine c_region ?_
          refine o_T (y_move rfl) rfl ?_
          refine o_L (y_assign rfl) rfl rfl ?_
          refine o_nil0 rfl ?_
          refine c_region ?_
          refine o_T (y_move rfl) rfl ?_
          refine o_T (y_move rfl) rfl ?_
          refine o_T (y_nilck rfl) rfl ?_
          refine o_T (y_fa fl_184_0 rfl) rfl ?_
          obtain ⟨_, hx7, hm⟩ := bd hm
          have hx7 := ckA_some hx7
          refine o_T (y_ia ar_182 rfl rfl hx7.1 hx7.2) rfl ?_
          refine o_T (y_fa fl_181_2 rfl) rfl ?_
          refine o_ld one_3 rfl m0 (At.got (((At.refl.comp Index.a_pool).comp (encN_a Nod.len _ _ hx7.1 _ hx7.2)).comp Nod.a_nxt)) rfl ?_
          refine o_L (y_assign rfl) rfl rfl ?_
          refine o_nil0 rfl ?_
          refine c_region ?_
          refine o_T (y_move rfl) rfl ?_
          refine o_T (y_add rfl rfl rfl) rfl ?_
          refine o_L (y_assign rfl) rfl rfl ?_
          refine o_nil0 rfl ?_
          exact ⟨mm1, Nat.lt_succ_self _, _, _, ⟨_, _, _, rfl, rfl, hm⟩, ⟨rfl, rfl, rfl, trivial⟩, ⟨rfl, rfl⟩, _, (s_take (s_take s_nil))⟩
      · have hm := cd_f h2 hm
        refine c_exit ?_
        obtain ⟨rfl, rfl, rfl⟩ := pr3 hm
        exact ⟨_, _, ⟨rfl, rfl⟩, ⟨rfl, rfl, rfl, trivial⟩, ⟨rfl, rfl⟩, _, (s_take (s_take s_nil))⟩
  · rintro sh G ⟨rfl, rfl⟩
    refine c_seq ?_
    refine c_region ?_
    refine o_T (y_move rfl) rfl ?_
    refine o_T (y_move rfl) rfl ?_
    refine o_T (y_move rfl) rfl ?_
    refine o_T (y_move rfl) rfl ?_
    refine o_T (y_move rfl) rfl ?_
    refine o_T (y_build st_181 rfl (fbU rfl Nod.u_name rfl rfl (fbU rfl Nod.u_file rfl rfl (fbU rfl Nod.u_nxt rfl rfl fbU0)))) rfl ?_
    refine o_T (y_nilck rfl) rfl ?_
    refine o_T (y_fa fl_184_0 rfl) rfl ?_
    obtain ⟨_, hx8, hm⟩ := bd hm
    have hx8 := ckA_some hx8
    refine o_T (y_ia ar_182 rfl rfl hx8.1 hx8.2) rfl ?_
    obtain ⟨z2, hn2, hm⟩ := nm_s hm
    refine o_stNA ag_181 rfl rfl (Nod.plain _) (Nod.len _) ((Upd.z Index.u_pool).comp (encN_u Nod.len _ _ _ hx8.1 _ hx8.2)) r0 (show (Index.enc z2) = _ from by subst hn2; rfl) ?_
    refine o_nil0 rfl ?_
    refine c_seq ?_
    refine c_seq ?_
    refine c_region ?_
    refine o_T (y_move rfl) rfl ?_
    refine o_T (y_eql rfl rfl) rfl ?_
    refine o_nil1 83 rfl rfl ?_
    refine c_cond rfl (fun h4 => ?_) (fun h4 => ?_)
    · have hm := cd_t h4 hm
      refine c_region ?_
      refine o_T (y_move rfl) rfl ?_
      refine o_T (y_move rfl) rfl ?_
      refine o_T (y_move rfl) rfl ?_
      refine o_T (y_nilck rfl) rfl ?_
      refine o_T (y_fa fl_184_0 rfl) rfl ?_
      obtain ⟨_, hx9, hm⟩ := bd hm
      have hx9 := ckA_some hx9
      refine o_T (y_ia ar_182 rfl rfl hx9.1 hx9.2) rfl ?_
      refine o_T (y_fa fl_181_1 rfl) rfl ?_
      obtain ⟨z3, hn3, hm⟩ := nm_s hm
      refine o_stN one_3 rfl rfl rfl (((Upd.z Index.u_pool).comp (encN_u Nod.len _ _ _ hx9.1 _ hx9.2)).comp Nod.u_child) r0 (show (Index.enc z3) = _ from by subst hn3; rfl) ?_
      refine o_nil0 rfl ?_
      refine c_seq ?_
      refine c_region ?_
      refine o_T (y_move rfl) rfl ?_
      refine o_L (y_assign rfl) rfl rfl ?_
      refine o_nil0 rfl ?_
      refine c_ret ?_
      obtain ⟨rfl, rfl⟩ := pr2 hm
      refine fun aX wX heX hsX => ret1 Tryz.results296 heX rfl (s_take (s_take s_nil)) ?_
      exact ⟨rfl, rfl⟩
    · have hm := cd_f h4 hm
      refine c_region ?_
      refine o_T (y_move rfl) rfl ?_
      refine o_T (y_move rfl) rfl ?_
      refine o_T (y_move rfl) rfl ?_
      refine o_T (y_nilck rfl) rfl ?_
      refine o_T (y_fa fl_184_0 rfl) rfl ?_
      obtain ⟨_, hx10, hm⟩ := bd hm
      have hx10 := ckA_some hx10
      refine o_T (y_ia ar_182 rfl rfl hx10.1 hx10.2) rfl ?_
      refine o_T (y_fa fl_181_2 rfl) rfl ?_
      obtain ⟨z4, hn4, hm⟩ := nm_s hm
      refine o_stN one_3 rfl rfl rfl (((Upd.z Index.u_pool).comp (encN_u Nod.len _ _ _ hx10.1 _ hx10.2)).comp Nod.u_nxt) r0 (show (Index.enc z4) = _ from by subst hn4; rfl) ?_
      refine o_nil0 rfl ?_
      refine c_seq ?_
      refine c_region ?_
      refine o_T (y_move rfl) rfl ?_
      refine o_L (y_assign rfl) rfl rfl ?_
      refine o_nil0 rfl ?_
      refine c_ret ?_
      obtain ⟨rfl, rfl⟩ := pr2 hm
      refine fun aX wX heX hsX => ret1 Tryz.results296 heX rfl (s_take (s_take s_nil)) ?_
      exact ⟨rfl, rfl⟩
end Go.Proofs.Qxb6500350aGreat
