/- MADE BY PROGRAM (tools350/mir.py): mirror and walk. -/
import Derived.Test.Qxb6500350aGreatF2
set_option linter.unusedVariables false
set_option linter.unusedSimpArgs false
set_option maxRecDepth 20000
set_option maxHeartbeats 4000000
namespace Go.Proofs.Qxb6500350aGreat
open Go.Eng

def op_181_5 : Array Go.Oper := #[{ dst := some 13, op := Go.Op.move (Go.Operand.tmp 3), type := 65, pos := "commit.go:95", after := #[], guard := none }, { dst := some 14, op := Go.Op.move (Go.Operand.tmp 0), type := 30, pos := "commit.go:95", after := #[], guard := none }, { dst := some 15, op := Go.Op.move (Go.Operand.tmp 0), type := 30, pos := "commit.go:95", after := #[], guard := none }, { dst := some 16, op := Go.Op.move (Go.Operand.tmp 4), type := 3, pos := "commit.go:95", after := #[], guard := none }, { dst := some 17, op := Go.Op.nilCheck (Go.Operand.tmp 15), type := 0, pos := "commit.go:95", after := #[{ on := 2, ground := Go.Ground.data }], guard := none }, { dst := some 18, op := Go.Op.fieldAddr 179 (Go.Operand.tmp 17) 2, type := 0, pos := "commit.go:95", after := #[{ on := 4, ground := Go.Ground.data }], guard := none }, { dst := some 19, op := Go.Op.indexAddr 174 (Go.Operand.tmp 18) (Go.Operand.tmp 16), type := 0, pos := "commit.go:95", after := #[{ on := 5, ground := Go.Ground.data }, { on := 3, ground := Go.Ground.data }], guard := none }, { dst := some 20, op := Go.Op.load 3 (Go.Operand.tmp 19), type := 3, pos := "commit.go:95", after := #[{ on := 6, ground := Go.Ground.data }], guard := none }, { dst := some 21, op := Go.Op.nilCheck (Go.Operand.tmp 14), type := 0, pos := "commit.go:95", after := #[{ on := 1, ground := Go.Ground.data }], guard := none }, { dst := some 22, op := Go.Op.fieldAddr 179 (Go.Operand.tmp 21) 1, type := 0, pos := "commit.go:95", after := #[{ on := 8, ground := Go.Ground.data }], guard := none }, { dst := some 23, op := Go.Op.indexAddr 173 (Go.Operand.tmp 22) (Go.Operand.tmp 20), type := 0, pos := "commit.go:95", after := #[{ on := 9, ground := Go.Ground.data }, { on := 7, ground := Go.Ground.data }], guard := none }, { dst := some 24, op := Go.Op.fieldAddr 172 (Go.Operand.tmp 23) 1, type := 0, pos := "commit.go:95", after := #[{ on := 10, ground := Go.Ground.data }], guard := none }, { dst := some 25, op := Go.Op.load 3 (Go.Operand.tmp 24), type := 3, pos := "commit.go:95", after := #[{ on := 11, ground := Go.Ground.data }], guard := none }, { dst := some 26, op := Go.Op.buildSlice 65 1 #[(0, Go.Operand.tmp 25)], type := 65, pos := "commit.go:95", after := #[{ on := 12, ground := Go.Ground.data }], guard := none }, { dst := some 27, op := Go.Op.call { callee := Go.Callee.builtin Go.Builtin.append, args := #[Go.Operand.tmp 13, Go.Operand.tmp 26], argTypes := #[65, 65] }, type := 65, pos := "commit.go:95", after := #[{ on := 0, ground := Go.Ground.data }, { on := 13, ground := Go.Ground.data }], guard := none }, { dst := some 3, op := Go.Op.assign (Go.Operand.tmp 27), type := 65, pos := "commit.go:95", after := #[{ on := 14, ground := Go.Ground.data }, { on := 14, ground := Go.Ground.chain }, { on := 0, ground := Go.Ground.phase }, { on := 1, ground := Go.Ground.phase }, { on := 2, ground := Go.Ground.phase }, { on := 3, ground := Go.Ground.phase }, { on := 4, ground := Go.Ground.phase }, { on := 5, ground := Go.Ground.phase }, { on := 6, ground := Go.Ground.phase }, { on := 7, ground := Go.Ground.phase }, { on := 8, ground := Go.Ground.phase }, { on := 9, ground := Go.Ground.phase }, { on := 10, ground := Go.Ground.phase }, { on := 11, ground := Go.Ground.phase }, { on := 12, ground := Go.Ground.phase }, { on := 13, ground := Go.Ground.phase }, { on := 14, ground := Go.Ground.phase }], guard := none }]
theorem sb_181_5_0 : softB op_181_5 #[true, true, true, true, true, true, true, true, true, true, true, true, true, true, false, true] (Array.replicate 16 false) 0 = true := by kernel_rfl
theorem sb_181_5_1 : softB op_181_5 #[true, true, true, true, true, true, true, true, true, true, true, true, true, true, false, true] ((Array.replicate 16 false).setIfInBounds 0 true) 1 = true := by kernel_rfl
theorem sb_181_5_2 : softB op_181_5 #[true, true, true, true, true, true, true, true, true, true, true, true, true, true, false, true] (((Array.replicate 16 false).setIfInBounds 0 true).setIfInBounds 1 true) 2 = true := by kernel_rfl
theorem sb_181_5_3 : softB op_181_5 #[true, true, true, true, true, true, true, true, true, true, true, true, true, true, false, true] ((((Array.replicate 16 false).setIfInBounds 0 true).setIfInBounds 1 true).setIfInBounds 2 true) 3 = true := by kernel_rfl
theorem sb_181_5_4 : softB op_181_5 #[true, true, true, true, true, true, true, true, true, true, true, true, true, true, false, true] (((((Array.replicate 16 false).setIfInBounds 0 true).setIfInBounds 1 true).setIfInBounds 2 true).setIfInBounds 3 true) 4 = true := by kernel_rfl
theorem sb_181_5_5 : softB op_181_5 #[true, true, true, true, true, true, true, true, true, true, true, true, true, true, false, true] ((((((Array.replicate 16 false).setIfInBounds 0 true).setIfInBounds 1 true).setIfInBounds 2 true).setIfInBounds 3 true).setIfInBounds 4 true) 5 = true := by kernel_rfl
theorem sb_181_5_6 : softB op_181_5 #[true, true, true, true, true, true, true, true, true, true, true, true, true, true, false, true] (((((((Array.replicate 16 false).setIfInBounds 0 true).setIfInBounds 1 true).setIfInBounds 2 true).setIfInBounds 3 true).setIfInBounds 4 true).setIfInBounds 5 true) 6 = true := by kernel_rfl
theorem sb_181_5_7 : softB op_181_5 #[true, true, true, true, true, true, true, true, true, true, true, true, true, true, false, true] ((((((((Array.replicate 16 false).setIfInBounds 0 true).setIfInBounds 1 true).setIfInBounds 2 true).setIfInBounds 3 true).setIfInBounds 4 true).setIfInBounds 5 true).setIfInBounds 6 true) 7 = true := by kernel_rfl
theorem sb_181_5_8 : softB op_181_5 #[true, true, true, true, true, true, true, true, true, true, true, true, true, true, false, true] (((((((((Array.replicate 16 false).setIfInBounds 0 true).setIfInBounds 1 true).setIfInBounds 2 true).setIfInBounds 3 true).setIfInBounds 4 true).setIfInBounds 5 true).setIfInBounds 6 true).setIfInBounds 7 true) 8 = true := by kernel_rfl
theorem sb_181_5_9 : softB op_181_5 #[true, true, true, true, true, true, true, true, true, true, true, true, true, true, false, true] ((((((((((Array.replicate 16 false).setIfInBounds 0 true).setIfInBounds 1 true).setIfInBounds 2 true).setIfInBounds 3 true).setIfInBounds 4 true).setIfInBounds 5 true).setIfInBounds 6 true).setIfInBounds 7 true).setIfInBounds 8 true) 9 = true := by kernel_rfl
theorem sb_181_5_10 : softB op_181_5 #[true, true, true, true, true, true, true, true, true, true, true, true, true, true, false, true] (((((((((((Array.replicate 16 false).setIfInBounds 0 true).setIfInBounds 1 true).setIfInBounds 2 true).setIfInBounds 3 true).setIfInBounds 4 true).setIfInBounds 5 true).setIfInBounds 6 true).setIfInBounds 7 true).setIfInBounds 8 true).setIfInBounds 9 true) 10 = true := by kernel_rfl
theorem sb_181_5_11 : softB op_181_5 #[true, true, true, true, true, true, true, true, true, true, true, true, true, true, false, true] ((((((((((((Array.replicate 16 false).setIfInBounds 0 true).setIfInBounds 1 true).setIfInBounds 2 true).setIfInBounds 3 true).setIfInBounds 4 true).setIfInBounds 5 true).setIfInBounds 6 true).setIfInBounds 7 true).setIfInBounds 8 true).setIfInBounds 9 true).setIfInBounds 10 true) 11 = true := by kernel_rfl
theorem sb_181_5_12 : softB op_181_5 #[true, true, true, true, true, true, true, true, true, true, true, true, true, true, false, true] (((((((((((((Array.replicate 16 false).setIfInBounds 0 true).setIfInBounds 1 true).setIfInBounds 2 true).setIfInBounds 3 true).setIfInBounds 4 true).setIfInBounds 5 true).setIfInBounds 6 true).setIfInBounds 7 true).setIfInBounds 8 true).setIfInBounds 9 true).setIfInBounds 10 true).setIfInBounds 11 true) 12 = true := by kernel_rfl
theorem sb_181_5_13 : hardB op_181_5 ((((((((((((((Array.replicate 16 false).setIfInBounds 0 true).setIfInBounds 1 true).setIfInBounds 2 true).setIfInBounds 3 true).setIfInBounds 4 true).setIfInBounds 5 true).setIfInBounds 6 true).setIfInBounds 7 true).setIfInBounds 8 true).setIfInBounds 9 true).setIfInBounds 10 true).setIfInBounds 11 true).setIfInBounds 12 true) [13] = true := by kernel_rfl
theorem sb_181_5_14 : hardB op_181_5 (((((((((((((((Array.replicate 16 false).setIfInBounds 0 true).setIfInBounds 1 true).setIfInBounds 2 true).setIfInBounds 3 true).setIfInBounds 4 true).setIfInBounds 5 true).setIfInBounds 6 true).setIfInBounds 7 true).setIfInBounds 8 true).setIfInBounds 9 true).setIfInBounds 10 true).setIfInBounds 11 true).setIfInBounds 12 true).setIfInBounds 13 true) [14] = true := by kernel_rfl
theorem sb_181_5_15 : softB op_181_5 #[true, true, true, true, true, true, true, true, true, true, true, true, true, true, false, true] ((((((((((((((((Array.replicate 16 false).setIfInBounds 0 true).setIfInBounds 1 true).setIfInBounds 2 true).setIfInBounds 3 true).setIfInBounds 4 true).setIfInBounds 5 true).setIfInBounds 6 true).setIfInBounds 7 true).setIfInBounds 8 true).setIfInBounds 9 true).setIfInBounds 10 true).setIfInBounds 11 true).setIfInBounds 12 true).setIfInBounds 13 true).setIfInBounds 14 true) 15 = true := by kernel_rfl
theorem sb_181_5_16 : hardB op_181_5 (((((((((((((((((Array.replicate 16 false).setIfInBounds 0 true).setIfInBounds 1 true).setIfInBounds 2 true).setIfInBounds 3 true).setIfInBounds 4 true).setIfInBounds 5 true).setIfInBounds 6 true).setIfInBounds 7 true).setIfInBounds 8 true).setIfInBounds 9 true).setIfInBounds 10 true).setIfInBounds 11 true).setIfInBounds 12 true).setIfInBounds 13 true).setIfInBounds 14 true).setIfInBounds 15 true) [] = true := by kernel_rfl
/- (*graph.Graph).Seqs -/
def m181_w1 (n : Nat) (g : Graph) (mm : Nat) : (List Int) → Int → Option ((List Int) × Int) := it2 (fun lp1 l1 c1 =>
cond (decide (c1 < g.n)) (
Option.bind (ckA c1 48) fun _ =>
Option.bind (ckA (g.order c1) 49) fun _ =>
Option.bind (apd l1 ((g.com (g.order c1)).seq)) fun l3 =>
lp1 l3 (wi (c1 + 1))) (
some (l1, c1))) mm
def m181 (n : Nat) (g : Graph) : Option ((List Int)) :=
ob2 (m181_w1 n g n ([] : List Int) 0) fun l2 c2 =>
some l2
theorem t181 {n : Nat} {C : List Chunk} {rl1 : List Int} {b1 : Nat} {g : Graph} {q1 : Option Addr}   (hm : m181 n g = some rl1) : Trip Tryz.prog 181 #[.pointer (some ⟨b1, 0, none⟩)] ([[(b1, .cells (Graph.enc ((.pointer q1)) g).toArray 179 (0, 0))]] ++ [C]) (fun u S' => ∃ (ev1 : Value), ∃ (eg1 : List Chunk), ev1 = u ∧ S' = [[(b1, .cells (Graph.enc ((.pointer q1)) g).toArray 179 (0, 0))], eg1] ++ [C] ∧ Own rInt ev1 rl1 eg1) := by
  refine fn_entry (args := [.pointer (some ⟨b1, 0, none⟩)]) Tryz.func181 rfl Tryz.ntmps181 rfl (fun w0 => ?_)
  refine c_seq ?_
  refine c_region ?_
  have ho1 : Own rInt (.slice none 0 0) [] [] := Own.nil
  refine o_emp ?_
  refine o_L (y_assign rfl) rfl rfl ?_
  refine o_nil0 rfl ?_
  refine c_seq ?_
  refine c_region ?_
  have ho2 : Own rInt (.slice none 0 0) [] [] := Own.nil
  refine o_emp ?_
  refine o_L (y_assign rfl) rfl rfl ?_
  refine o_nil0 rfl ?_
  refine c_seq ?_
  refine c_seq ?_
  refine c_region ?_
  refine o_L (y_assign rfl) rfl rfl ?_
  refine o_nil0 rfl ?_
  obtain ⟨l2, c2, hj1, hm⟩ := bd2 hm
  refine c_joinP (n := 1) (fun sh G => ∃ (v2 : Value), ∃ (g2 : List Chunk), sh = [(3, v2), (4, .int .i64 c2)] ∧ G = [g2] ∧ Own rInt v2 l2 g2) (s_take (s_skip (s_take (s_take s_nil)))) (.s .z) (fun _ _ h => h) ?_ ?_
  · skip
    refine c_block ?_
    refine c_loopP (n := 1) (fun mm sh G => ∃ (l1 : List Int), ∃ (c1 : Int), ∃ (v1 : Value), ∃ (g1 : List Chunk), sh = [(3, v1), (4, .int .i64 c1)] ∧ G = [g1] ∧ m181_w1 n g mm l1 c1 = some (l2, c2) ∧ Own rInt v1 l1 g1) n (s_take (s_skip (s_take (s_take s_nil)))) (.s .z) ⟨_, _, ⟨_, _, (.slice none 0 0), _, rfl, rfl, hj1, ho2⟩, ⟨rfl, rfl, trivial⟩, _, (s_take (s_skip (s_take (s_take s_nil))))⟩ ?_
    rintro mm sh G ⟨l1, c1, v1, g1, rfl, rfl, hm, ho3⟩
    obtain ⟨mm1, rfl, hm⟩ := it2_s hm
    refine c_seq ?_
    refine c_seq ?_
    refine c_region ?_
    refine o_T (y_move rfl) rfl ?_
    refine o_T (y_move rfl) rfl ?_
    refine o_T (y_nilck rfl) rfl ?_
    refine o_T (y_fa fl_179_3 rfl) rfl ?_
    refine o_ld one_3 rfl (ms m0) (At.got (At.refl.comp Graph.a_n)) rfl ?_
    refine o_T (y_lss rfl rfl) rfl ?_
    refine o_nil1 10 rfl rfl ?_
    refine c_cond rfl (fun h1 => ?_) (fun h1 => ?_)
    · have hm := cd_t h1 hm
      refine c_skip ?_
      refine c_seq ?_
      refine c_block ?_
      refine c_draw #[true, true, true, true, true, true, true, true, true, true, true, true, true, true, false, true] rfl (n := 16) rfl ?_
      refine d_T 0 rfl sb_181_5_0 rfl (y_move rfl) rfl ?_
      refine d_T 1 rfl sb_181_5_1 rfl (y_move rfl) rfl ?_
      refine d_T 2 rfl sb_181_5_2 rfl (y_move rfl) rfl ?_
      refine d_T 3 rfl sb_181_5_3 rfl (y_move rfl) rfl ?_
      refine d_T 4 rfl sb_181_5_4 rfl (y_nilck rfl) rfl ?_
      refine d_T 5 rfl sb_181_5_5 rfl (y_fa fl_179_2 rfl) rfl ?_
      obtain ⟨_, hx1, hm⟩ := bd hm
      have hx1 := ckA_some hx1
      refine d_T 6 rfl sb_181_5_6 rfl (y_ia ar_174 rfl rfl hx1.1 hx1.2) rfl ?_
      refine d_ld 7 rfl sb_181_5_7 one_3 rfl (fun x hx => hx) (ms m0) (At.got ((At.refl.comp Graph.a_order).comp (encN_a encI_len _ _ hx1.1 _ hx1.2))) rfl ?_
      refine d_T 8 rfl sb_181_5_8 rfl (y_nilck rfl) rfl ?_
      refine d_T 9 rfl sb_181_5_9 rfl (y_fa fl_179_1 rfl) rfl ?_
      obtain ⟨_, hx2, hm⟩ := bd hm
      have hx2 := ckA_some hx2
      refine d_T 10 rfl sb_181_5_10 rfl (y_ia ar_173 rfl rfl hx2.1 hx2.2) rfl ?_
      refine d_T 11 rfl sb_181_5_11 rfl (y_fa fl_172_1 rfl) rfl ?_
      refine d_ld 12 rfl sb_181_5_12 one_3 rfl (fun x hx => hx) (ms m0) (At.got (((At.refl.comp Graph.a_com).comp (encN_a Com.len _ _ hx2.1 _ hx2.2)).comp Com.a_seq)) rfl ?_
      refine d_hard 13 rfl sb_181_5_13 ?_
      refine o_bs1 sz_65 rfl rfl rfl rfl rfl rfl (fun b2 => ?_)
      refine o_stop (fun _ => (fun x hx => (ms hx))) ?_
      refine d_hard 14 rfl sb_181_5_14 ?_
      obtain ⟨l3, hx3, hm⟩ := bd hm
      refine o_appR (R := rInt) (a := ((g.com (g.order c1)).seq)) sz_65 rfl rfl rfl rfl ho3 rfl hx3 (Sel.e (s_get (ks k0) (s_take s_nil))) rfl (fun v3 g3 ho5 => ?_)
      refine o_stop (fun h => nomatch h) ?_
      refine d_L 15 rfl sb_181_5_15 rfl (y_assign rfl) rfl rfl ?_
      refine d_nil0 sb_181_5_16 rfl ?_
      refine c_region ?_
      refine o_T (y_move rfl) rfl ?_
      refine o_T (y_add rfl rfl rfl) rfl ?_
      refine o_L (y_assign rfl) rfl rfl ?_
      refine o_nil0 rfl ?_
      exact ⟨mm1, Nat.lt_succ_self _, _, _, ⟨_, _, v3, _, rfl, rfl, hm, ho5⟩, ⟨rfl, rfl, trivial⟩, ⟨rfl, rfl⟩, _, (s_take (s_take (s_take s_nil)))⟩
    · have hm := cd_f h1 hm
      refine c_exit ?_
      obtain ⟨rfl, rfl⟩ := pr2 hm
      exact ⟨_, _, ⟨v1, _, rfl, rfl, ho3⟩, ⟨rfl, rfl, trivial⟩, ⟨rfl, rfl⟩, _, (s_take (s_take (s_take s_nil)))⟩
  · rintro sh G ⟨v2, g2, rfl, rfl, ho4⟩
    refine c_seq ?_
    refine c_region ?_
    refine o_T (y_move rfl) rfl ?_
    refine o_L (y_assign rfl) rfl rfl ?_
    refine o_nil0 rfl ?_
    refine c_ret ?_
    obtain rfl := p1 hm
    refine fun aX wX heX hsX => ret1 Tryz.results181 heX rfl (s_get (ks k0) (s_take (s_take s_nil))) ?_
    exact ⟨v2, _, rfl, rfl, ho4⟩
end Go.Proofs.Qxb6500350aGreat
