/- MADE BY PROGRAM (tools350/mir.py): mirror and walk. -/
import Derived.Test.Qxb6500350aGreatF2
set_option linter.unusedVariables false
set_option linter.unusedSimpArgs false
set_option maxRecDepth 20000
set_option maxHeartbeats 4000000
namespace Go.Proofs.Qxb6500350aGreat
open Go.Eng

def op_263_6 : Array Go.Oper := #[{ dst := some 36, op := Go.Op.move (Go.Operand.tmp 5), type := 3, pos := "check.go:13", after := #[], guard := none }, { dst := some 37, op := Go.Op.fieldAddr 172 (Go.Operand.tmp 2) 4, type := 0, pos := "check.go:13", after := #[], guard := none }, { dst := some 38, op := Go.Op.indexAddr 170 (Go.Operand.tmp 37) (Go.Operand.tmp 36), type := 0, pos := "check.go:13", after := #[{ on := 1, ground := Go.Ground.data }, { on := 0, ground := Go.Ground.data }], guard := none }, { dst := some 39, op := Go.Op.load 3 (Go.Operand.tmp 38), type := 3, pos := "check.go:13", after := #[{ on := 2, ground := Go.Ground.data }], guard := none }, { dst := some 40, op := Go.Op.move (Go.Operand.tmp 5), type := 3, pos := "check.go:13", after := #[], guard := none }, { dst := some 41, op := Go.Op.fieldAddr 172 (Go.Operand.tmp 3) 4, type := 0, pos := "check.go:13", after := #[], guard := none }, { dst := some 42, op := Go.Op.indexAddr 170 (Go.Operand.tmp 41) (Go.Operand.tmp 40), type := 0, pos := "check.go:13", after := #[{ on := 5, ground := Go.Ground.data }, { on := 4, ground := Go.Ground.data }], guard := none }, { dst := some 43, op := Go.Op.load 3 (Go.Operand.tmp 42), type := 3, pos := "check.go:13", after := #[{ on := 6, ground := Go.Ground.data }], guard := none }, { dst := some 44, op := Go.Op.binOp Go.BinOp.neq 3 (Go.Operand.tmp 39) (Go.Operand.tmp 43) 3, type := 4, pos := "check.go:13", after := #[{ on := 3, ground := Go.Ground.data }, { on := 7, ground := Go.Ground.data }], guard := none }]
theorem sb_263_6_0 : softB op_263_6 #[true, true, true, true, true, true, true, true, true] (Array.replicate 9 false) 0 = true := by kernel_rfl
theorem sb_263_6_1 : softB op_263_6 #[true, true, true, true, true, true, true, true, true] ((Array.replicate 9 false).setIfInBounds 0 true) 1 = true := by kernel_rfl
theorem sb_263_6_2 : softB op_263_6 #[true, true, true, true, true, true, true, true, true] (((Array.replicate 9 false).setIfInBounds 0 true).setIfInBounds 1 true) 2 = true := by kernel_rfl
theorem sb_263_6_3 : softB op_263_6 #[true, true, true, true, true, true, true, true, true] ((((Array.replicate 9 false).setIfInBounds 0 true).setIfInBounds 1 true).setIfInBounds 2 true) 3 = true := by kernel_rfl
theorem sb_263_6_4 : softB op_263_6 #[true, true, true, true, true, true, true, true, true] (((((Array.replicate 9 false).setIfInBounds 0 true).setIfInBounds 1 true).setIfInBounds 2 true).setIfInBounds 3 true) 4 = true := by kernel_rfl
theorem sb_263_6_5 : softB op_263_6 #[true, true, true, true, true, true, true, true, true] ((((((Array.replicate 9 false).setIfInBounds 0 true).setIfInBounds 1 true).setIfInBounds 2 true).setIfInBounds 3 true).setIfInBounds 4 true) 5 = true := by kernel_rfl
theorem sb_263_6_6 : softB op_263_6 #[true, true, true, true, true, true, true, true, true] (((((((Array.replicate 9 false).setIfInBounds 0 true).setIfInBounds 1 true).setIfInBounds 2 true).setIfInBounds 3 true).setIfInBounds 4 true).setIfInBounds 5 true) 6 = true := by kernel_rfl
theorem sb_263_6_7 : softB op_263_6 #[true, true, true, true, true, true, true, true, true] ((((((((Array.replicate 9 false).setIfInBounds 0 true).setIfInBounds 1 true).setIfInBounds 2 true).setIfInBounds 3 true).setIfInBounds 4 true).setIfInBounds 5 true).setIfInBounds 6 true) 7 = true := by kernel_rfl
theorem sb_263_6_8 : softB op_263_6 #[true, true, true, true, true, true, true, true, true] (((((((((Array.replicate 9 false).setIfInBounds 0 true).setIfInBounds 1 true).setIfInBounds 2 true).setIfInBounds 3 true).setIfInBounds 4 true).setIfInBounds 5 true).setIfInBounds 6 true).setIfInBounds 7 true) 8 = true := by kernel_rfl
theorem sb_263_6_9 : hardB op_263_6 ((((((((((Array.replicate 9 false).setIfInBounds 0 true).setIfInBounds 1 true).setIfInBounds 2 true).setIfInBounds 3 true).setIfInBounds 4 true).setIfInBounds 5 true).setIfInBounds 6 true).setIfInBounds 7 true).setIfInBounds 8 true) [] = true := by kernel_rfl
/- graph.sameCommit -/
def m263_w1 (n : Nat) (a : Com) (b_ : Com) (mm : Nat) : Int → Option (Flow (Bool) (Int)) := it1 (fun lp1 c1 =>
cond (decide (c1 < 2)) (
Option.bind (ckA c1 2) fun _ =>
Option.bind (ckA c1 2) fun _ =>
cond (decide (¬ ((a.par c1) = (b_.par c1)))) (
Option.bind (some false) fun q1 => some (.ret q1)) (
lp1 (wi (c1 + 1)))) (
some (.nx c1))) mm
def m263 (n : Nat) (a : Com) (b_ : Com) : Option (Bool) :=
cond ((((a.used != b_.used) || (decide (¬ (a.seq = b_.seq)))) || (decide (¬ (a.tree = b_.tree)))) || (decide (¬ (a.np = b_.np)))) (
some false) (
flow (m263_w1 n a b_ n 0) some (un1 fun c2 =>
some true))
theorem t263 {n : Nat} {C : List Chunk} {rc1 : Bool} {a : Com} {b_ : Com}   (hm : m263 n a b_ = some rc1) : Trip Tryz.prog 263 #[.agg (Com.enc a).toArray, .agg (Com.enc b_).toArray] ([] ++ [C]) (fun u S' => .bool rc1 = u ∧ S' = [] ++ [C]) := by
  refine fn_entry (args := [.agg (Com.enc a).toArray, .agg (Com.enc b_).toArray]) Tryz.func263 rfl Tryz.ntmps263 rfl (fun w0 => ?_)
  refine c_seq ?_
  refine c_region ?_
  refine o_box rfl rfl rfl rfl (fun b1 => ?_)
  refine o_box rfl rfl rfl rfl (fun b2 => ?_)
  refine o_L (y_assign rfl) rfl rfl ?_
  refine o_nil0 rfl ?_
  refine c_seq ?_
  refine c_seq ?_
  refine c_joinP (n := 0) (fun sh G => sh = [(31, .bool ((((a.used != b_.used) || (decide (¬ (a.seq = b_.seq)))) || (decide (¬ (a.tree = b_.tree)))) || (decide (¬ (a.np = b_.np)))))] ∧ G = []) Sel.all' .z (fun _ _ h => h) ?_ ?_
  · skip
    refine c_region ?_
    refine o_T (y_fa fl_172_0 rfl) rfl ?_
    refine o_ld one_4 rfl (ms m0) (At.got (At.refl.comp Com.a_used)) rfl ?_
    refine o_T (y_fa fl_172_0 rfl) rfl ?_
    refine o_ld one_4 rfl m0 (At.got (At.refl.comp Com.a_used)) rfl ?_
    refine o_T (y_bne Tryz.underlying4 rfl rfl) rfl ?_
    refine o_T (y_move rfl) rfl ?_
    refine o_split 11 rfl (fun h1 => ?_) (fun h1 => ?_)
    · skip
      refine o_pass rfl rfl rfl rfl rfl ?_
      refine o_pass rfl rfl rfl rfl rfl ?_
      refine o_pass rfl rfl rfl rfl rfl ?_
      refine o_pass rfl rfl rfl rfl rfl ?_
      refine o_pass rfl rfl rfl rfl rfl ?_
      refine o_T (y_pickT rfl rfl) rfl ?_
      refine o_T (y_move rfl) rfl ?_
      refine o_pass rfl rfl rfl rfl rfl ?_
      refine o_pass rfl rfl rfl rfl rfl ?_
      refine o_pass rfl rfl rfl rfl rfl ?_
      refine o_pass rfl rfl rfl rfl rfl ?_
      refine o_pass rfl rfl rfl rfl rfl ?_
      refine o_T (y_pickT rfl rfl) rfl ?_
      refine o_T (y_move rfl) rfl ?_
      refine o_pass rfl rfl rfl rfl rfl ?_
      refine o_pass rfl rfl rfl rfl rfl ?_
      refine o_pass rfl rfl rfl rfl rfl ?_
      refine o_pass rfl rfl rfl rfl rfl ?_
      refine o_pass rfl rfl rfl rfl rfl ?_
      refine o_T (y_pickT rfl rfl) rfl ?_
      refine o_nil1 31 rfl rfl ?_
      refine ⟨_, _, ⟨rfl, rfl⟩, ⟨by first | rfl | exact gtb rfl (by simp only [h1, Bool.true_and, Bool.false_and, Bool.true_or, Bool.false_or, Bool.and_true, Bool.and_false, Bool.or_true, Bool.or_false, Bool.not_true, Bool.not_false]), trivial⟩, ⟨rfl, rfl⟩, _, (s_take (s_take (s_take s_nil)))⟩
    · skip
      refine o_take rfl rfl rfl ?_
      refine o_T (y_fa fl_172_1 rfl) rfl ?_
      refine o_take rfl rfl rfl ?_
      refine o_ld one_3 rfl (ms m0) (At.got (At.refl.comp Com.a_seq)) rfl ?_
      refine o_take rfl rfl rfl ?_
      refine o_T (y_fa fl_172_1 rfl) rfl ?_
      refine o_take rfl rfl rfl ?_
      refine o_ld one_3 rfl m0 (At.got (At.refl.comp Com.a_seq)) rfl ?_
      refine o_take rfl rfl rfl ?_
      refine o_T (y_neq rfl rfl) rfl ?_
      refine o_T (y_pickF rfl rfl) rfl ?_
      refine o_T (y_move rfl) rfl ?_
      refine o_split 18 rfl (fun h2 => ?_) (fun h2 => ?_)
      · skip
        refine o_pass rfl rfl rfl rfl rfl ?_
        refine o_pass rfl rfl rfl rfl rfl ?_
        refine o_pass rfl rfl rfl rfl rfl ?_
        refine o_pass rfl rfl rfl rfl rfl ?_
        refine o_pass rfl rfl rfl rfl rfl ?_
        refine o_T (y_pickT rfl rfl) rfl ?_
        refine o_T (y_move rfl) rfl ?_
        refine o_pass rfl rfl rfl rfl rfl ?_
        refine o_pass rfl rfl rfl rfl rfl ?_
        refine o_pass rfl rfl rfl rfl rfl ?_
        refine o_pass rfl rfl rfl rfl rfl ?_
        refine o_pass rfl rfl rfl rfl rfl ?_
        refine o_T (y_pickT rfl rfl) rfl ?_
        refine o_nil1 31 rfl rfl ?_
        refine ⟨_, _, ⟨rfl, rfl⟩, ⟨by first | rfl | exact gtb rfl (by simp only [h1, h2, Bool.true_and, Bool.false_and, Bool.true_or, Bool.false_or, Bool.and_true, Bool.and_false, Bool.or_true, Bool.or_false, Bool.not_true, Bool.not_false]), trivial⟩, ⟨rfl, rfl⟩, _, (s_take (s_take (s_take s_nil)))⟩
      · skip
        refine o_take rfl rfl rfl ?_
        refine o_T (y_fa fl_172_2 rfl) rfl ?_
        refine o_take rfl rfl rfl ?_
        refine o_ld one_3 rfl (ms m0) (At.got (At.refl.comp Com.a_tree)) rfl ?_
        refine o_take rfl rfl rfl ?_
        refine o_T (y_fa fl_172_2 rfl) rfl ?_
        refine o_take rfl rfl rfl ?_
        refine o_ld one_3 rfl m0 (At.got (At.refl.comp Com.a_tree)) rfl ?_
        refine o_take rfl rfl rfl ?_
        refine o_T (y_neq rfl rfl) rfl ?_
        refine o_T (y_pickF rfl rfl) rfl ?_
        refine o_T (y_move rfl) rfl ?_
        refine o_split 25 rfl (fun h3 => ?_) (fun h3 => ?_)
        · skip
          refine o_pass rfl rfl rfl rfl rfl ?_
          refine o_pass rfl rfl rfl rfl rfl ?_
          refine o_pass rfl rfl rfl rfl rfl ?_
          refine o_pass rfl rfl rfl rfl rfl ?_
          refine o_pass rfl rfl rfl rfl rfl ?_
          refine o_T (y_pickT rfl rfl) rfl ?_
          refine o_nil1 31 rfl rfl ?_
          refine ⟨_, _, ⟨rfl, rfl⟩, ⟨by first | rfl | exact gtb rfl (by simp only [h1, h2, h3, Bool.true_and, Bool.false_and, Bool.true_or, Bool.false_or, Bool.and_true, Bool.and_false, Bool.or_true, Bool.or_false, Bool.not_true, Bool.not_false]), trivial⟩, ⟨rfl, rfl⟩, _, (s_take (s_take (s_take s_nil)))⟩
        · skip
          refine o_take rfl rfl rfl ?_
          refine o_T (y_fa fl_172_3 rfl) rfl ?_
          refine o_take rfl rfl rfl ?_
          refine o_ld one_3 rfl (ms m0) (At.got (At.refl.comp Com.a_np)) rfl ?_
          refine o_take rfl rfl rfl ?_
          refine o_T (y_fa fl_172_3 rfl) rfl ?_
          refine o_take rfl rfl rfl ?_
          refine o_ld one_3 rfl m0 (At.got (At.refl.comp Com.a_np)) rfl ?_
          refine o_take rfl rfl rfl ?_
          refine o_T (y_neq rfl rfl) rfl ?_
          refine o_T (y_pickF rfl rfl) rfl ?_
          refine o_nil1 31 rfl rfl ?_
          refine ⟨_, _, ⟨rfl, rfl⟩, ⟨by first | rfl | exact gtb rfl (by simp only [h1, h2, h3, Bool.true_and, Bool.false_and, Bool.true_or, Bool.false_or, Bool.and_true, Bool.and_false, Bool.or_true, Bool.or_false, Bool.not_true, Bool.not_false]), trivial⟩, ⟨rfl, rfl⟩, _, (s_take (s_take (s_take s_nil)))⟩
  · rintro sh G ⟨rfl, rfl⟩
    refine c_cond rfl (fun h4 => ?_) (fun h4 => ?_)
    · have hm := cd_t h4 hm
      refine c_seq ?_
      refine c_region ?_
      refine o_L (y_assign rfl) rfl rfl ?_
      refine o_nil0 rfl ?_
      refine c_ret ?_
      obtain rfl := p1 hm
      refine fun aX wX heX hsX => ret1 Tryz.results263 heX rfl (s_skip (s_skip (s_take s_nil))) ?_
      exact ⟨rfl, rfl⟩
    · have hm := cd_f h4 hm
      refine c_skip ?_
      refine c_seq ?_
      refine c_seq ?_
      refine c_region ?_
      refine o_L (y_assign rfl) rfl rfl ?_
      refine o_nil0 rfl ?_
      obtain ⟨f1, F1, hF1, hj1, hF2⟩ := fl2 hm
      refine c_joinP (n := 0) (fun sh G => ∃ (c2 : Int), sh = [(5, .int .i64 c2)] ∧ G = [] ∧ F1 c2 = some rc1) (s_take (s_take (s_take s_nil))) .z (fun _ _ h => h) ?_ ?_
      · skip
        refine c_block ?_
        refine c_loopP (n := 0) (fun mm sh G => ∃ (c1 : Int), sh = [(5, .int .i64 c1)] ∧ G = [] ∧ m263_w1 n a b_ mm c1 = some f1) n (s_take (s_take (s_take s_nil))) .z ⟨_, _, ⟨_, rfl, rfl, hj1⟩, ⟨rfl, trivial⟩, _, (s_take (s_take (s_take s_nil)))⟩ ?_
        rintro mm sh G ⟨c1, rfl, rfl, hm⟩
        obtain ⟨mm1, rfl, hm⟩ := it1_s hm
        refine c_seq ?_
        refine c_seq ?_
        refine c_region ?_
        refine o_T (y_move rfl) rfl ?_
        refine o_T (y_lss rfl rfl) rfl ?_
        refine o_nil1 33 rfl rfl ?_
        refine c_cond rfl (fun h5 => ?_) (fun h5 => ?_)
        · have hm := cd_t h5 hm
          refine c_skip ?_
          refine c_seq ?_
          refine c_block ?_
          refine c_seq ?_
          refine c_draw #[true, true, true, true, true, true, true, true, true] rfl (n := 9) rfl ?_
          refine d_T 0 rfl sb_263_6_0 rfl (y_move rfl) rfl ?_
          refine d_T 1 rfl sb_263_6_1 rfl (y_fa fl_172_4 rfl) rfl ?_
          obtain ⟨_, hx1, hm⟩ := bd hm
          have hx1 := ckA_some hx1
          refine d_T 2 rfl sb_263_6_2 rfl (y_ia ar_170 rfl rfl hx1.1 hx1.2) rfl ?_
          refine d_ld 3 rfl sb_263_6_3 one_3 rfl (fun x hx => hx) (ms m0) (At.got ((At.refl.comp Com.a_par).comp (encN_a encI_len _ _ hx1.1 _ hx1.2))) rfl ?_
          refine d_T 4 rfl sb_263_6_4 rfl (y_move rfl) rfl ?_
          refine d_T 5 rfl sb_263_6_5 rfl (y_fa fl_172_4 rfl) rfl ?_
          obtain ⟨_, hx2, hm⟩ := bd hm
          have hx2 := ckA_some hx2
          refine d_T 6 rfl sb_263_6_6 rfl (y_ia ar_170 rfl rfl hx2.1 hx2.2) rfl ?_
          refine d_ld 7 rfl sb_263_6_7 one_3 rfl (fun x hx => hx) m0 (At.got ((At.refl.comp Com.a_par).comp (encN_a encI_len _ _ hx2.1 _ hx2.2))) rfl ?_
          refine d_T 8 rfl sb_263_6_8 rfl (y_neq rfl rfl) rfl ?_
          refine d_nil1 44 sb_263_6_9 rfl rfl ?_
          refine c_cond rfl (fun h6 => ?_) (fun h6 => ?_)
          · have hm := cd_t h6 hm
            refine c_seq ?_
            refine c_region ?_
            refine o_L (y_assign rfl) rfl rfl ?_
            refine o_nil0 rfl ?_
            refine c_ret ?_
            obtain ⟨q1, hq1, hm⟩ := bd hm
            have hm := fl_ret hm hF2
            have hm := hq1.trans hm
            obtain rfl := p1 hm
            refine fun aX wX heX hsX => ret1 Tryz.results263 heX rfl (s_skip (s_skip (s_take s_nil))) ?_
            exact ⟨rfl, rfl⟩
          · have hm := cd_f h6 hm
            refine c_skip ?_
            refine c_region ?_
            refine o_T (y_move rfl) rfl ?_
            refine o_T (y_add rfl rfl rfl) rfl ?_
            refine o_L (y_assign rfl) rfl rfl ?_
            refine o_nil0 rfl ?_
            exact ⟨mm1, Nat.lt_succ_self _, _, _, ⟨_, rfl, rfl, hm⟩, ⟨rfl, trivial⟩, ⟨rfl, rfl⟩, _, (s_take (s_take (s_take s_nil)))⟩
        · have hm := cd_f h5 hm
          refine c_exit ?_
          have hm := fl_nx hm hF2
          exact ⟨_, _, ⟨_, rfl, rfl, hm⟩, ⟨rfl, trivial⟩, ⟨rfl, rfl⟩, _, (s_take (s_take (s_take s_nil)))⟩
      · rintro sh G ⟨c2, rfl, rfl, hm⟩
        subst hF1
        refine c_seq ?_
        refine c_region ?_
        refine o_L (y_assign rfl) rfl rfl ?_
        refine o_nil0 rfl ?_
        refine c_ret ?_
        obtain rfl := p1 hm
        refine fun aX wX heX hsX => ret1 Tryz.results263 heX rfl (s_skip (s_skip (s_take s_nil))) ?_
        exact ⟨rfl, rfl⟩
end Go.Proofs.Qxb6500350aGreat
