/- MADE BY PROGRAM (tools350/mir.py): mirror and walk. -/
import Derived.Test.Qxb6500350aGreatF2
import Derived.Test.Qxb6500350aGreatT244
set_option linter.unusedVariables false
set_option linter.unusedSimpArgs false
set_option maxRecDepth 20000
set_option maxHeartbeats 4000000
namespace Go.Proofs.Qxb6500350aGreat
open Go.Eng

def op_166_1 : Array Go.Oper := #[{ dst := some 13, op := Go.Op.move (Go.Operand.tmp 0), type := 28, pos := "table.go:20", after := #[], guard := none }, { dst := some 14, op := Go.Op.move (Go.Operand.tmp 1), type := 3, pos := "table.go:20", after := #[], guard := none }, { dst := some 15, op := Go.Op.move (Go.Operand.tmp 0), type := 28, pos := "table.go:20", after := #[], guard := none }, { dst := some 16, op := Go.Op.move (Go.Operand.tmp 4), type := 3, pos := "table.go:20", after := #[], guard := none }, { dst := some 17, op := Go.Op.nilCheck (Go.Operand.tmp 15), type := 0, pos := "table.go:20", after := #[{ on := 2, ground := Go.Ground.data }], guard := none }, { dst := some 18, op := Go.Op.fieldAddr 126 (Go.Operand.tmp 17) 2, type := 0, pos := "table.go:20", after := #[{ on := 4, ground := Go.Ground.data }], guard := none }, { dst := some 19, op := Go.Op.indexAddr 122 (Go.Operand.tmp 18) (Go.Operand.tmp 16), type := 0, pos := "table.go:20", after := #[{ on := 5, ground := Go.Ground.data }, { on := 3, ground := Go.Ground.data }], guard := none }, { dst := some 20, op := Go.Op.load 3 (Go.Operand.tmp 19), type := 3, pos := "table.go:20", after := #[{ on := 6, ground := Go.Ground.data }], guard := none }, { dst := some 21, op := Go.Op.nilCheck (Go.Operand.tmp 13), type := 0, pos := "table.go:20", after := #[{ on := 0, ground := Go.Ground.data }], guard := none }, { dst := some 22, op := Go.Op.fieldAddr 126 (Go.Operand.tmp 21) 1, type := 0, pos := "table.go:20", after := #[{ on := 8, ground := Go.Ground.data }], guard := none }, { dst := some 23, op := Go.Op.indexAddr 121 (Go.Operand.tmp 22) (Go.Operand.tmp 14), type := 0, pos := "table.go:20", after := #[{ on := 9, ground := Go.Ground.data }, { on := 1, ground := Go.Ground.data }, { on := 0, ground := Go.Ground.phase }, { on := 1, ground := Go.Ground.phase }, { on := 2, ground := Go.Ground.phase }, { on := 3, ground := Go.Ground.phase }, { on := 4, ground := Go.Ground.phase }, { on := 5, ground := Go.Ground.phase }, { on := 6, ground := Go.Ground.phase }, { on := 7, ground := Go.Ground.phase }], guard := none }, { dst := some 24, op := Go.Op.fieldAddr 120 (Go.Operand.tmp 23) 5, type := 0, pos := "table.go:20", after := #[{ on := 10, ground := Go.Ground.data }, { on := 0, ground := Go.Ground.phase }, { on := 1, ground := Go.Ground.phase }, { on := 2, ground := Go.Ground.phase }, { on := 3, ground := Go.Ground.phase }, { on := 4, ground := Go.Ground.phase }, { on := 5, ground := Go.Ground.phase }, { on := 6, ground := Go.Ground.phase }, { on := 7, ground := Go.Ground.phase }], guard := none }, { dst := none, op := Go.Op.store 3 (Go.Operand.tmp 24) (Go.Operand.tmp 20), type := 0, pos := "table.go:20", after := #[{ on := 11, ground := Go.Ground.data }, { on := 7, ground := Go.Ground.data }, { on := 0, ground := Go.Ground.phase }, { on := 1, ground := Go.Ground.phase }, { on := 2, ground := Go.Ground.phase }, { on := 3, ground := Go.Ground.phase }, { on := 4, ground := Go.Ground.phase }, { on := 5, ground := Go.Ground.phase }, { on := 6, ground := Go.Ground.phase }, { on := 7, ground := Go.Ground.phase }], guard := none }]
theorem sb_166_1_0 : softB op_166_1 #[true, true, true, true, true, true, true, true, true, true, true, true, false] (Array.replicate 13 false) 0 = true := by kernel_rfl
theorem sb_166_1_1 : softB op_166_1 #[true, true, true, true, true, true, true, true, true, true, true, true, false] ((Array.replicate 13 false).setIfInBounds 0 true) 1 = true := by kernel_rfl
theorem sb_166_1_2 : softB op_166_1 #[true, true, true, true, true, true, true, true, true, true, true, true, false] (((Array.replicate 13 false).setIfInBounds 0 true).setIfInBounds 1 true) 2 = true := by kernel_rfl
theorem sb_166_1_3 : softB op_166_1 #[true, true, true, true, true, true, true, true, true, true, true, true, false] ((((Array.replicate 13 false).setIfInBounds 0 true).setIfInBounds 1 true).setIfInBounds 2 true) 3 = true := by kernel_rfl
theorem sb_166_1_4 : softB op_166_1 #[true, true, true, true, true, true, true, true, true, true, true, true, false] (((((Array.replicate 13 false).setIfInBounds 0 true).setIfInBounds 1 true).setIfInBounds 2 true).setIfInBounds 3 true) 4 = true := by kernel_rfl
theorem sb_166_1_5 : softB op_166_1 #[true, true, true, true, true, true, true, true, true, true, true, true, false] ((((((Array.replicate 13 false).setIfInBounds 0 true).setIfInBounds 1 true).setIfInBounds 2 true).setIfInBounds 3 true).setIfInBounds 4 true) 5 = true := by kernel_rfl
theorem sb_166_1_6 : softB op_166_1 #[true, true, true, true, true, true, true, true, true, true, true, true, false] (((((((Array.replicate 13 false).setIfInBounds 0 true).setIfInBounds 1 true).setIfInBounds 2 true).setIfInBounds 3 true).setIfInBounds 4 true).setIfInBounds 5 true) 6 = true := by kernel_rfl
theorem sb_166_1_7 : softB op_166_1 #[true, true, true, true, true, true, true, true, true, true, true, true, false] ((((((((Array.replicate 13 false).setIfInBounds 0 true).setIfInBounds 1 true).setIfInBounds 2 true).setIfInBounds 3 true).setIfInBounds 4 true).setIfInBounds 5 true).setIfInBounds 6 true) 7 = true := by kernel_rfl
theorem sb_166_1_8 : softB op_166_1 #[true, true, true, true, true, true, true, true, true, true, true, true, false] (((((((((Array.replicate 13 false).setIfInBounds 0 true).setIfInBounds 1 true).setIfInBounds 2 true).setIfInBounds 3 true).setIfInBounds 4 true).setIfInBounds 5 true).setIfInBounds 6 true).setIfInBounds 7 true) 8 = true := by kernel_rfl
theorem sb_166_1_9 : softB op_166_1 #[true, true, true, true, true, true, true, true, true, true, true, true, false] ((((((((((Array.replicate 13 false).setIfInBounds 0 true).setIfInBounds 1 true).setIfInBounds 2 true).setIfInBounds 3 true).setIfInBounds 4 true).setIfInBounds 5 true).setIfInBounds 6 true).setIfInBounds 7 true).setIfInBounds 8 true) 9 = true := by kernel_rfl
theorem sb_166_1_10 : softB op_166_1 #[true, true, true, true, true, true, true, true, true, true, true, true, false] (((((((((((Array.replicate 13 false).setIfInBounds 0 true).setIfInBounds 1 true).setIfInBounds 2 true).setIfInBounds 3 true).setIfInBounds 4 true).setIfInBounds 5 true).setIfInBounds 6 true).setIfInBounds 7 true).setIfInBounds 8 true).setIfInBounds 9 true) 10 = true := by kernel_rfl
theorem sb_166_1_11 : softB op_166_1 #[true, true, true, true, true, true, true, true, true, true, true, true, false] ((((((((((((Array.replicate 13 false).setIfInBounds 0 true).setIfInBounds 1 true).setIfInBounds 2 true).setIfInBounds 3 true).setIfInBounds 4 true).setIfInBounds 5 true).setIfInBounds 6 true).setIfInBounds 7 true).setIfInBounds 8 true).setIfInBounds 9 true).setIfInBounds 10 true) 11 = true := by kernel_rfl
theorem sb_166_1_12 : hardB op_166_1 (((((((((((((Array.replicate 13 false).setIfInBounds 0 true).setIfInBounds 1 true).setIfInBounds 2 true).setIfInBounds 3 true).setIfInBounds 4 true).setIfInBounds 5 true).setIfInBounds 6 true).setIfInBounds 7 true).setIfInBounds 8 true).setIfInBounds 9 true).setIfInBounds 10 true).setIfInBounds 11 true) [12] = true := by kernel_rfl
theorem sb_166_1_13 : hardB op_166_1 ((((((((((((((Array.replicate 13 false).setIfInBounds 0 true).setIfInBounds 1 true).setIfInBounds 2 true).setIfInBounds 3 true).setIfInBounds 4 true).setIfInBounds 5 true).setIfInBounds 6 true).setIfInBounds 7 true).setIfInBounds 8 true).setIfInBounds 9 true).setIfInBounds 10 true).setIfInBounds 11 true).setIfInBounds 12 true) [] = true := by kernel_rfl
/- (*objects.Store).hang -/
def m166 (n : Nat) (s : Store) (id : Int) : Option (Store) :=
Option.bind (ckA id 49) fun _ =>
ob1 (m244 n ((s.tab id).hash)) fun c1 =>
Option.bind (ckA c1 8) fun _ =>
Option.bind (ckA id 49) fun _ =>
nm ({ s with tab := (upI s.tab id { (s.tab id) with nxt := (s.heads c1) }) } : Store) fun z1 =>
Option.bind (ckA c1 8) fun _ =>
nm ({ z1 with heads := (upI z1.heads c1 id) } : Store) fun z2 =>
some z2
theorem t166 {n : Nat} {C : List Chunk} {rz1 : Store} {b1 : Nat} {s : Store} {q1 : Option Addr} {id : Int}   (hm : m166 n s id = some rz1) : Trip Tryz.prog 166 #[.pointer (some ⟨b1, 0, none⟩), .int .i64 id] ([[(b1, .cells (Store.enc ((.pointer q1)) s).toArray 126 (0, 0))]] ++ [C]) (fun u S' => .tuple #[] = u ∧ S' = [[(b1, .cells (Store.enc ((.pointer q1)) rz1).toArray 126 (0, 0))]] ++ [C]) := by
  refine fn_entry (args := [.pointer (some ⟨b1, 0, none⟩), .int .i64 id]) Tryz.func166 rfl Tryz.ntmps166 rfl (fun w0 => ?_)
  refine c_seq ?_
  refine c_region ?_
  refine o_T (y_move rfl) rfl ?_
  refine o_T (y_move rfl) rfl ?_
  refine o_T (y_nilck rfl) rfl ?_
  refine o_T (y_fa fl_126_1 rfl) rfl ?_
  obtain ⟨_, hx1, hm⟩ := bd hm
  have hx1 := ckA_some hx1
  refine o_T (y_ia ar_121 rfl rfl hx1.1 hx1.2) rfl ?_
  refine o_T (y_fa fl_120_4 rfl) rfl ?_
  refine o_ld one_118 rfl m0 (At.got (((At.refl.comp Store.a_tab).comp (encN_a Entr.len _ _ hx1.1 _ hx1.2)).comp Entr.a_hash)) rfl ?_
  obtain ⟨c1, hx2, hm⟩ := bd1 hm
  refine o_callC en_244 rfl s_nil (t244 hx2) rfl (fun u1 S1 hR1 => ?_)
  obtain ⟨rfl, rfl⟩ := hR1
  refine o_rest ?_
  refine o_L (y_assign rfl) rfl rfl ?_
  refine o_nil0 rfl ?_
  refine c_seq ?_
  refine c_draw #[true, true, true, true, true, true, true, true, true, true, true, true, false] rfl (n := 13) rfl ?_
  refine d_T 0 rfl sb_166_1_0 rfl (y_move rfl) rfl ?_
  refine d_T 1 rfl sb_166_1_1 rfl (y_move rfl) rfl ?_
  refine d_T 2 rfl sb_166_1_2 rfl (y_move rfl) rfl ?_
  refine d_T 3 rfl sb_166_1_3 rfl (y_move rfl) rfl ?_
  refine d_T 4 rfl sb_166_1_4 rfl (y_nilck rfl) rfl ?_
  refine d_T 5 rfl sb_166_1_5 rfl (y_fa fl_126_2 rfl) rfl ?_
  obtain ⟨_, hx3, hm⟩ := bd hm
  have hx3 := ckA_some hx3
  refine d_T 6 rfl sb_166_1_6 rfl (y_ia ar_122 rfl rfl hx3.1 hx3.2) rfl ?_
  refine d_ld 7 rfl sb_166_1_7 one_3 rfl (fun x hx => hx) m0 (At.got ((At.refl.comp Store.a_heads).comp (encN_a encI_len _ _ hx3.1 _ hx3.2))) rfl ?_
  refine d_T 8 rfl sb_166_1_8 rfl (y_nilck rfl) rfl ?_
  refine d_T 9 rfl sb_166_1_9 rfl (y_fa fl_126_1 rfl) rfl ?_
  obtain ⟨_, hx4, hm⟩ := bd hm
  have hx4 := ckA_some hx4
  refine d_T 10 rfl sb_166_1_10 rfl (y_ia ar_121 rfl rfl hx4.1 hx4.2) rfl ?_
  refine d_T 11 rfl sb_166_1_11 rfl (y_fa fl_120_5 rfl) rfl ?_
  refine d_hard 12 rfl sb_166_1_12 ?_
  obtain ⟨z1, hn1, hm⟩ := nm_s hm
  refine o_stN one_3 rfl rfl rfl (((Upd.z Store.u_tab).comp (encN_u Entr.len _ _ _ hx4.1 _ hx4.2)).comp Entr.u_nxt) r0 (show (Store.enc ((.pointer q1)) z1) = _ from by subst hn1; rfl) ?_
  refine o_stop (fun h => nomatch h) ?_
  refine d_nil0 sb_166_1_13 rfl ?_
  refine c_region ?_
  refine o_T (y_move rfl) rfl ?_
  refine o_T (y_move rfl) rfl ?_
  refine o_T (y_move rfl) rfl ?_
  refine o_T (y_nilck rfl) rfl ?_
  refine o_T (y_fa fl_126_2 rfl) rfl ?_
  obtain ⟨_, hx5, hm⟩ := bd hm
  have hx5 := ckA_some hx5
  refine o_T (y_ia ar_122 rfl rfl hx5.1 hx5.2) rfl ?_
  obtain ⟨z2, hn2, hm⟩ := nm_s hm
  refine o_stN one_3 rfl rfl rfl ((Upd.z Store.u_heads).comp (encN_u encI_len _ _ _ hx5.1 _ hx5.2)) r0 (show (Store.enc ((.pointer q1)) z2) = _ from by subst hn2; rfl) ?_
  refine o_nil0 rfl ?_
  obtain rfl := p1 hm
  refine fun aX wX heX hsX => ret0 Tryz.results166 (s_take (s_take s_nil)) ?_
  exact ⟨rfl, rfl⟩
end Go.Proofs.Qxb6500350aGreat
