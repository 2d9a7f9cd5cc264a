/- MADE BY PROGRAM (tools350/mir.py): mirror and walk. -/
import Derived.Test.Qxb6500350aGreatF2
import Derived.Test.Qxb6500350aGreatT25
import Derived.Test.Qxb6500350aGreatT26
import Derived.Test.Qxb6500350aGreatT27
set_option linter.unusedVariables false
set_option linter.unusedSimpArgs false
set_option maxRecDepth 20000
set_option maxHeartbeats 4000000
namespace Go.Proofs.Qxb6500350aGreat
open Go.Eng

def op_12_1 : Array Go.Oper := #[{ dst := some 4, op := Go.Op.move (Go.Operand.tmp 0), type := 39, pos := "repom.go:430", after := #[], guard := none }, { dst := some 5, op := Go.Op.nilCheck (Go.Operand.tmp 4), type := 0, pos := "repom.go:430", after := #[{ on := 0, ground := Go.Ground.data }], guard := none }, { dst := some 6, op := Go.Op.fieldAddr 59 (Go.Operand.tmp 5) 1, type := 0, pos := "repom.go:430", after := #[{ on := 1, ground := Go.Ground.data }], guard := none }, { dst := some 7, op := Go.Op.load 3 (Go.Operand.tmp 6), type := 3, pos := "repom.go:430", after := #[{ on := 2, ground := Go.Ground.data }], guard := none }, { dst := some 8, op := Go.Op.move (Go.Operand.tmp 0), type := 39, pos := "repom.go:430", after := #[], guard := none }, { dst := some 9, op := Go.Op.nilCheck (Go.Operand.tmp 8), type := 0, pos := "repom.go:430", after := #[{ on := 4, ground := Go.Ground.data }], guard := none }, { dst := some 10, op := Go.Op.fieldAddr 59 (Go.Operand.tmp 9) 3, type := 0, pos := "repom.go:430", after := #[{ on := 5, ground := Go.Ground.data }], guard := none }, { dst := some 11, op := Go.Op.load 54 (Go.Operand.tmp 10), type := 54, pos := "repom.go:430", after := #[{ on := 6, ground := Go.Ground.data }], guard := none }, { dst := some 12, op := Go.Op.move (Go.Operand.tmp 0), type := 39, pos := "repom.go:430", after := #[], guard := none }, { dst := some 13, op := Go.Op.nilCheck (Go.Operand.tmp 12), type := 0, pos := "repom.go:430", after := #[{ on := 8, ground := Go.Ground.data }], guard := none }, { dst := some 14, op := Go.Op.fieldAddr 59 (Go.Operand.tmp 13) 6, type := 0, pos := "repom.go:430", after := #[{ on := 9, ground := Go.Ground.data }], guard := none }, { dst := some 15, op := Go.Op.load 3 (Go.Operand.tmp 14), type := 3, pos := "repom.go:430", after := #[{ on := 10, ground := Go.Ground.data }], guard := none }, { dst := some 16, op := Go.Op.move (Go.Operand.tmp 0), type := 39, pos := "repom.go:430", after := #[], guard := none }, { dst := some 17, op := Go.Op.nilCheck (Go.Operand.tmp 16), type := 0, pos := "repom.go:430", after := #[{ on := 12, ground := Go.Ground.data }], guard := none }, { dst := some 18, op := Go.Op.fieldAddr 59 (Go.Operand.tmp 17) 7, type := 0, pos := "repom.go:430", after := #[{ on := 13, ground := Go.Ground.data }], guard := none }, { dst := some 19, op := Go.Op.load 4 (Go.Operand.tmp 18), type := 4, pos := "repom.go:430", after := #[{ on := 14, ground := Go.Ground.data }], guard := none }, { dst := some 20, op := Go.Op.build 59 #[(1, Go.Operand.tmp 7), (3, Go.Operand.tmp 11), (6, Go.Operand.tmp 15), (7, Go.Operand.tmp 19)], type := 59, pos := "repom.go:430", after := #[{ on := 3, ground := Go.Ground.data }, { on := 7, ground := Go.Ground.data }, { on := 11, ground := Go.Ground.data }, { on := 15, ground := Go.Ground.data }], guard := none }, { dst := some 21, op := Go.Op.box 59 (Go.Operand.tmp 20), type := 39, pos := "repom.go:430", after := #[{ on := 16, ground := Go.Ground.data }], guard := none }, { dst := some 3, op := Go.Op.assign (Go.Operand.tmp 21), type := 39, pos := "repom.go:430", after := #[{ on := 17, ground := Go.Ground.data }, { on := 0, ground := Go.Ground.phase }, { on := 1, ground := Go.Ground.phase }, { on := 2, ground := Go.Ground.phase }, { on := 3, ground := Go.Ground.phase }, { on := 4, ground := Go.Ground.phase }, { on := 5, ground := Go.Ground.phase }, { on := 6, ground := Go.Ground.phase }, { on := 7, ground := Go.Ground.phase }, { on := 8, ground := Go.Ground.phase }, { on := 9, ground := Go.Ground.phase }, { on := 10, ground := Go.Ground.phase }, { on := 11, ground := Go.Ground.phase }, { on := 12, ground := Go.Ground.phase }, { on := 13, ground := Go.Ground.phase }, { on := 14, ground := Go.Ground.phase }, { on := 15, ground := Go.Ground.phase }, { on := 16, ground := Go.Ground.phase }, { on := 17, ground := Go.Ground.phase }], guard := none }]
theorem sb_12_1_0 : softB op_12_1 #[true, true, true, true, true, true, true, true, true, true, true, true, true, true, true, true, true, true, true] (Array.replicate 19 false) 0 = true := by kernel_rfl
theorem sb_12_1_1 : softB op_12_1 #[true, true, true, true, true, true, true, true, true, true, true, true, true, true, true, true, true, true, true] ((Array.replicate 19 false).setIfInBounds 0 true) 1 = true := by kernel_rfl
theorem sb_12_1_2 : softB op_12_1 #[true, true, true, true, true, true, true, true, true, true, true, true, true, true, true, true, true, true, true] (((Array.replicate 19 false).setIfInBounds 0 true).setIfInBounds 1 true) 2 = true := by kernel_rfl
theorem sb_12_1_3 : softB op_12_1 #[true, true, true, true, true, true, true, true, true, true, true, true, true, true, true, true, true, true, true] ((((Array.replicate 19 false).setIfInBounds 0 true).setIfInBounds 1 true).setIfInBounds 2 true) 3 = true := by kernel_rfl
theorem sb_12_1_4 : softB op_12_1 #[true, true, true, true, true, true, true, true, true, true, true, true, true, true, true, true, true, true, true] (((((Array.replicate 19 false).setIfInBounds 0 true).setIfInBounds 1 true).setIfInBounds 2 true).setIfInBounds 3 true) 4 = true := by kernel_rfl
theorem sb_12_1_5 : softB op_12_1 #[true, true, true, true, true, true, true, true, true, true, true, true, true, true, true, true, true, true, true] ((((((Array.replicate 19 false).setIfInBounds 0 true).setIfInBounds 1 true).setIfInBounds 2 true).setIfInBounds 3 true).setIfInBounds 4 true) 5 = true := by kernel_rfl
theorem sb_12_1_6 : softB op_12_1 #[true, true, true, true, true, true, true, true, true, true, true, true, true, true, true, true, true, true, true] (((((((Array.replicate 19 false).setIfInBounds 0 true).setIfInBounds 1 true).setIfInBounds 2 true).setIfInBounds 3 true).setIfInBounds 4 true).setIfInBounds 5 true) 6 = true := by kernel_rfl
theorem sb_12_1_7 : softB op_12_1 #[true, true, true, true, true, true, true, true, true, true, true, true, true, true, true, true, true, true, true] ((((((((Array.replicate 19 false).setIfInBounds 0 true).setIfInBounds 1 true).setIfInBounds 2 true).setIfInBounds 3 true).setIfInBounds 4 true).setIfInBounds 5 true).setIfInBounds 6 true) 7 = true := by kernel_rfl
theorem sb_12_1_8 : softB op_12_1 #[true, true, true, true, true, true, true, true, true, true, true, true, true, true, true, true, true, true, true] (((((((((Array.replicate 19 false).setIfInBounds 0 true).setIfInBounds 1 true).setIfInBounds 2 true).setIfInBounds 3 true).setIfInBounds 4 true).setIfInBounds 5 true).setIfInBounds 6 true).setIfInBounds 7 true) 8 = true := by kernel_rfl
theorem sb_12_1_9 : softB op_12_1 #[true, true, true, true, true, true, true, true, true, true, true, true, true, true, true, true, true, true, true] ((((((((((Array.replicate 19 false).setIfInBounds 0 true).setIfInBounds 1 true).setIfInBounds 2 true).setIfInBounds 3 true).setIfInBounds 4 true).setIfInBounds 5 true).setIfInBounds 6 true).setIfInBounds 7 true).setIfInBounds 8 true) 9 = true := by kernel_rfl
theorem sb_12_1_10 : softB op_12_1 #[true, true, true, true, true, true, true, true, true, true, true, true, true, true, true, true, true, true, true] (((((((((((Array.replicate 19 false).setIfInBounds 0 true).setIfInBounds 1 true).setIfInBounds 2 true).setIfInBounds 3 true).setIfInBounds 4 true).setIfInBounds 5 true).setIfInBounds 6 true).setIfInBounds 7 true).setIfInBounds 8 true).setIfInBounds 9 true) 10 = true := by kernel_rfl
theorem sb_12_1_11 : softB op_12_1 #[true, true, true, true, true, true, true, true, true, true, true, true, true, true, true, true, true, true, true] ((((((((((((Array.replicate 19 false).setIfInBounds 0 true).setIfInBounds 1 true).setIfInBounds 2 true).setIfInBounds 3 true).setIfInBounds 4 true).setIfInBounds 5 true).setIfInBounds 6 true).setIfInBounds 7 true).setIfInBounds 8 true).setIfInBounds 9 true).setIfInBounds 10 true) 11 = true := by kernel_rfl
theorem sb_12_1_12 : softB op_12_1 #[true, true, true, true, true, true, true, true, true, true, true, true, true, true, true, true, true, true, true] (((((((((((((Array.replicate 19 false).setIfInBounds 0 true).setIfInBounds 1 true).setIfInBounds 2 true).setIfInBounds 3 true).setIfInBounds 4 true).setIfInBounds 5 true).setIfInBounds 6 true).setIfInBounds 7 true).setIfInBounds 8 true).setIfInBounds 9 true).setIfInBounds 10 true).setIfInBounds 11 true) 12 = true := by kernel_rfl
theorem sb_12_1_13 : softB op_12_1 #[true, true, true, true, true, true, true, true, true, true, true, true, true, true, true, true, true, true, true] ((((((((((((((Array.replicate 19 false).setIfInBounds 0 true).setIfInBounds 1 true).setIfInBounds 2 true).setIfInBounds 3 true).setIfInBounds 4 true).setIfInBounds 5 true).setIfInBounds 6 true).setIfInBounds 7 true).setIfInBounds 8 true).setIfInBounds 9 true).setIfInBounds 10 true).setIfInBounds 11 true).setIfInBounds 12 true) 13 = true := by kernel_rfl
theorem sb_12_1_14 : softB op_12_1 #[true, true, true, true, true, true, true, true, true, true, true, true, true, true, true, true, true, true, true] (((((((((((((((Array.replicate 19 false).setIfInBounds 0 true).setIfInBounds 1 true).setIfInBounds 2 true).setIfInBounds 3 true).setIfInBounds 4 true).setIfInBounds 5 true).setIfInBounds 6 true).setIfInBounds 7 true).setIfInBounds 8 true).setIfInBounds 9 true).setIfInBounds 10 true).setIfInBounds 11 true).setIfInBounds 12 true).setIfInBounds 13 true) 14 = true := by kernel_rfl
theorem sb_12_1_15 : softB op_12_1 #[true, true, true, true, true, true, true, true, true, true, true, true, true, true, true, true, true, true, true] ((((((((((((((((Array.replicate 19 false).setIfInBounds 0 true).setIfInBounds 1 true).setIfInBounds 2 true).setIfInBounds 3 true).setIfInBounds 4 true).setIfInBounds 5 true).setIfInBounds 6 true).setIfInBounds 7 true).setIfInBounds 8 true).setIfInBounds 9 true).setIfInBounds 10 true).setIfInBounds 11 true).setIfInBounds 12 true).setIfInBounds 13 true).setIfInBounds 14 true) 15 = true := by kernel_rfl
theorem sb_12_1_16 : softB op_12_1 #[true, true, true, true, true, true, true, true, true, true, true, true, true, true, true, true, true, true, true] (((((((((((((((((Array.replicate 19 false).setIfInBounds 0 true).setIfInBounds 1 true).setIfInBounds 2 true).setIfInBounds 3 true).setIfInBounds 4 true).setIfInBounds 5 true).setIfInBounds 6 true).setIfInBounds 7 true).setIfInBounds 8 true).setIfInBounds 9 true).setIfInBounds 10 true).setIfInBounds 11 true).setIfInBounds 12 true).setIfInBounds 13 true).setIfInBounds 14 true).setIfInBounds 15 true) 16 = true := by kernel_rfl
theorem sb_12_1_17 : hardB op_12_1 ((((((((((((((((((Array.replicate 19 false).setIfInBounds 0 true).setIfInBounds 1 true).setIfInBounds 2 true).setIfInBounds 3 true).setIfInBounds 4 true).setIfInBounds 5 true).setIfInBounds 6 true).setIfInBounds 7 true).setIfInBounds 8 true).setIfInBounds 9 true).setIfInBounds 10 true).setIfInBounds 11 true).setIfInBounds 12 true).setIfInBounds 13 true).setIfInBounds 14 true).setIfInBounds 15 true).setIfInBounds 16 true) [17] = true := by kernel_rfl
theorem sb_12_1_18 : softB op_12_1 #[true, true, true, true, true, true, true, true, true, true, true, true, true, true, true, true, true, true, true] (((((((((((((((((((Array.replicate 19 false).setIfInBounds 0 true).setIfInBounds 1 true).setIfInBounds 2 true).setIfInBounds 3 true).setIfInBounds 4 true).setIfInBounds 5 true).setIfInBounds 6 true).setIfInBounds 7 true).setIfInBounds 8 true).setIfInBounds 9 true).setIfInBounds 10 true).setIfInBounds 11 true).setIfInBounds 12 true).setIfInBounds 13 true).setIfInBounds 14 true).setIfInBounds 15 true).setIfInBounds 16 true).setIfInBounds 17 true) 18 = true := by kernel_rfl
theorem sb_12_1_19 : hardB op_12_1 ((((((((((((((((((((Array.replicate 19 false).setIfInBounds 0 true).setIfInBounds 1 true).setIfInBounds 2 true).setIfInBounds 3 true).setIfInBounds 4 true).setIfInBounds 5 true).setIfInBounds 6 true).setIfInBounds 7 true).setIfInBounds 8 true).setIfInBounds 9 true).setIfInBounds 10 true).setIfInBounds 11 true).setIfInBounds 12 true).setIfInBounds 13 true).setIfInBounds 14 true).setIfInBounds 15 true).setIfInBounds 16 true).setIfInBounds 17 true).setIfInBounds 18 true) [] = true := by kernel_rfl
/- (*repom.Repo).Clone -/
def m12 (n : Nat) (m : RepoM) : Option (RepoM) :=
ob1 (m25 n m.nodes) fun l1 =>
nm ({ ({ RepoM.zero with nxt := m.nxt, head := m.head, room := m.room, lax := m.lax }) with nodes := l1 } : RepoM) fun z1 =>
ob1 (m26 n m.refs) fun l2 =>
nm ({ z1 with refs := l2 } : RepoM) fun z2 =>
ob1 (m27 n m.index) fun l3 =>
nm ({ z2 with index := l3 } : RepoM) fun z3 =>
ob1 (m27 n m.work) fun l4 =>
nm ({ z3 with work := l4 } : RepoM) fun z4 =>
some z4
theorem t12 {n : Nat} {C : List Chunk} {rz1 : RepoM} {b1 : Nat} {m : RepoM} {v1 : Value} {g1 : List Chunk} {v2 : Value} {g2 : List Chunk} {v3 : Value} {g3 : List Chunk} {v4 : Value} {g4 : List Chunk} (ho1 : Own rNode v1 m.nodes g1) (ho2 : Own rRef_ v2 m.refs g2) (ho3 : Own rFile v3 m.index g3) (ho4 : Own rFile v4 m.work g4)  (hm : m12 n m = some rz1) : Trip Tryz.prog 12 #[.pointer (some ⟨b1, 0, none⟩)] ([[(b1, .cells (RepoM.enc (v1) (v2) (v3) (v4) m).toArray 59 (0, 0))], g1, g2, g3, g4] ++ [C]) (fun u S' => ∃ (eb1 : Nat), ∃ (ev1 : Value), ∃ (eg1 : List Chunk), ∃ (ev2 : Value), ∃ (eg2 : List Chunk), ∃ (ev3 : Value), ∃ (eg3 : List Chunk), ∃ (ev4 : Value), ∃ (eg4 : List Chunk), .pointer (some ⟨eb1, 0, none⟩) = u ∧ S' = [[(b1, .cells (RepoM.enc (v1) (v2) (v3) (v4) m).toArray 59 (0, 0))], g1, g2, g3, g4, [(eb1, .cells (RepoM.enc (ev1) (ev2) (ev3) (ev4) rz1).toArray 59 (0, 0))], eg1, eg2, eg3, eg4] ++ [C] ∧ Own rNode ev1 rz1.nodes eg1 ∧ Own rRef_ ev2 rz1.refs eg2 ∧ Own rFile ev3 rz1.index eg3 ∧ Own rFile ev4 rz1.work eg4) := by
  refine fn_entry (args := [.pointer (some ⟨b1, 0, none⟩)]) Tryz.func12 rfl Tryz.ntmps12 rfl (fun w0 => ?_)
  refine c_seq ?_
  refine c_region ?_
  refine o_L (y_assign rfl) rfl rfl ?_
  refine o_nil0 rfl ?_
  refine c_seq ?_
  refine c_draw #[true, true, true, true, true, true, true, true, true, true, true, true, true, true, true, true, true, true, true] rfl (n := 19) rfl ?_
  refine d_T 0 rfl sb_12_1_0 rfl (y_move rfl) rfl ?_
  refine d_T 1 rfl sb_12_1_1 rfl (y_nilck rfl) rfl ?_
  refine d_T 2 rfl sb_12_1_2 rfl (y_fa fl_59_1 rfl) rfl ?_
  refine d_ld 3 rfl sb_12_1_3 one_3 rfl (fun x hx => hx) m0 (At.got (At.refl.comp RepoM.a_nxt)) rfl ?_
  refine d_T 4 rfl sb_12_1_4 rfl (y_move rfl) rfl ?_
  refine d_T 5 rfl sb_12_1_5 rfl (y_nilck rfl) rfl ?_
  refine d_T 6 rfl sb_12_1_6 rfl (y_fa fl_59_3 rfl) rfl ?_
  refine d_lda 7 rfl sb_12_1_7 ag_54 rfl (fun x hx => hx) m0 (At.exs (At.refl.comp RepoM.a_head) (Head.len _)) (At.fits (At.refl.comp RepoM.a_head) (Head.len _)) rfl ?_
  refine d_T 8 rfl sb_12_1_8 rfl (y_move rfl) rfl ?_
  refine d_T 9 rfl sb_12_1_9 rfl (y_nilck rfl) rfl ?_
  refine d_T 10 rfl sb_12_1_10 rfl (y_fa fl_59_6 rfl) rfl ?_
  refine d_ld 11 rfl sb_12_1_11 one_3 rfl (fun x hx => hx) m0 (At.got (At.refl.comp RepoM.a_room)) rfl ?_
  refine d_T 12 rfl sb_12_1_12 rfl (y_move rfl) rfl ?_
  refine d_T 13 rfl sb_12_1_13 rfl (y_nilck rfl) rfl ?_
  refine d_T 14 rfl sb_12_1_14 rfl (y_fa fl_59_7 rfl) rfl ?_
  refine d_ld 15 rfl sb_12_1_15 one_4 rfl (fun x hx => hx) m0 (At.got (At.refl.comp RepoM.a_lax)) rfl ?_
  refine d_T 16 rfl sb_12_1_16 rfl (y_build st_59 rfl (fbU rfl RepoM.u_nxt rfl rfl (fbU rfl RepoM.u_head rfl rfl (fbU rfl RepoM.u_room rfl rfl (fbU rfl RepoM.u_lax rfl rfl fbU0))))) rfl ?_
  refine d_hard 17 rfl sb_12_1_17 ?_
  refine o_box rfl rfl rfl rfl (fun b2 => ?_)
  have ho5 : Own rNode (.slice none 0 0) [] [] := Own.nil
  refine o_emp ?_
  have ho6 : Own rRef_ (.slice none 0 0) [] [] := Own.nil
  refine o_emp ?_
  have ho7 : Own rFile (.slice none 0 0) [] [] := Own.nil
  refine o_emp ?_
  have ho8 : Own rFile (.slice none 0 0) [] [] := Own.nil
  refine o_emp ?_
  refine o_stop (fun _ => (fun x hx => (ms (ms (ms (ms (ms hx))))))) ?_
  refine d_L 18 rfl sb_12_1_18 rfl (y_assign rfl) rfl rfl ?_
  refine d_nil0 sb_12_1_19 rfl ?_
  refine c_seq ?_
  refine c_region ?_
  refine o_T (y_move rfl) rfl ?_
  refine o_T (y_move rfl) rfl ?_
  refine o_T (y_nilck rfl) rfl ?_
  refine o_T (y_fa fl_59_0 rfl) rfl ?_
  refine o_ld one_55 rfl (ms (ms (ms (ms (ms m0))))) (At.got (At.refl.comp RepoM.a_nodes)) rfl ?_
  obtain ⟨l1, hx1, hm⟩ := bd1 hm
  refine o_callC en_25 rfl s_nil (t25 (ho1.rd.mono (fun _ hz => (ms (ms (ms (ms (ms (ms (mg hz))))))))) hx1) rfl (fun u1 S1 hR1 => ?_)
  obtain ⟨v5, g5, rfl, rfl, ho9⟩ := hR1
  refine o_rest ?_
  refine o_T (y_nilck rfl) rfl ?_
  refine o_T (y_fa fl_59_0 rfl) rfl ?_
  obtain ⟨z1, hn1, hm⟩ := nm_s hm
  have ho10 := ho9.to (l' := z1.nodes) (by subst hn1; rfl)
  have ho11 := ho6.to (l' := z1.refs) (by subst hn1; rfl)
  have ho12 := ho7.to (l' := z1.index) (by subst hn1; rfl)
  have ho13 := ho8.to (l' := z1.work) (by subst hn1; rfl)
  refine o_stN one_55 rfl rfl ho9.pl (Upd.z RepoM.u_nodes) (rs (rs (rs (rs (rs r0))))) (show (RepoM.enc (v5) ((.slice none 0 0)) ((.slice none 0 0)) ((.slice none 0 0)) z1) = _ from by subst hn1; rfl) ?_
  refine o_nil0 rfl ?_
  refine c_seq ?_
  refine c_region ?_
  refine o_T (y_move rfl) rfl ?_
  refine o_T (y_move rfl) rfl ?_
  refine o_T (y_nilck rfl) rfl ?_
  refine o_T (y_fa fl_59_2 rfl) rfl ?_
  refine o_ld one_56 rfl (ms (ms (ms (ms (ms (ms m0)))))) (At.got (At.refl.comp RepoM.a_refs)) rfl ?_
  obtain ⟨l2, hx2, hm⟩ := bd1 hm
  refine o_callC en_26 rfl s_nil (t26 (ho2.rd.mono (fun _ hz => (ms (ms (ms (ms (ms (ms (ms (ms (mg hz))))))))))) hx2) rfl (fun u2 S2 hR2 => ?_)
  obtain ⟨v6, g6, rfl, rfl, ho14⟩ := hR2
  refine o_rest ?_
  refine o_T (y_nilck rfl) rfl ?_
  refine o_T (y_fa fl_59_2 rfl) rfl ?_
  obtain ⟨z2, hn2, hm⟩ := nm_s hm
  have ho15 := ho10.to (l' := z2.nodes) (by subst hn2; rfl)
  have ho16 := ho14.to (l' := z2.refs) (by subst hn2; rfl)
  have ho17 := ho12.to (l' := z2.index) (by subst hn2; rfl)
  have ho18 := ho13.to (l' := z2.work) (by subst hn2; rfl)
  refine o_stN one_56 rfl rfl ho14.pl (Upd.z RepoM.u_refs) (rs (rs (rs (rs (rs (rs r0)))))) (show (RepoM.enc (v5) (v6) ((.slice none 0 0)) ((.slice none 0 0)) z2) = _ from by subst hn2; rfl) ?_
  refine o_nil0 rfl ?_
  refine c_seq ?_
  refine c_region ?_
  refine o_T (y_move rfl) rfl ?_
  refine o_T (y_move rfl) rfl ?_
  refine o_T (y_nilck rfl) rfl ?_
  refine o_T (y_fa fl_59_4 rfl) rfl ?_
  refine o_ld one_57 rfl (ms (ms (ms (ms (ms (ms (ms m0))))))) (At.got (At.refl.comp RepoM.a_index)) rfl ?_
  obtain ⟨l3, hx3, hm⟩ := bd1 hm
  refine o_callC en_27 rfl s_nil (t27 (ho3.rd.mono (fun _ hz => (ms (ms (ms (ms (ms (ms (ms (ms (ms (ms (mg hz))))))))))))) hx3) rfl (fun u3 S3 hR3 => ?_)
  obtain ⟨v7, g7, rfl, rfl, ho19⟩ := hR3
  refine o_rest ?_
  refine o_T (y_nilck rfl) rfl ?_
  refine o_T (y_fa fl_59_4 rfl) rfl ?_
  obtain ⟨z3, hn3, hm⟩ := nm_s hm
  have ho20 := ho15.to (l' := z3.nodes) (by subst hn3; rfl)
  have ho21 := ho16.to (l' := z3.refs) (by subst hn3; rfl)
  have ho22 := ho19.to (l' := z3.index) (by subst hn3; rfl)
  have ho23 := ho18.to (l' := z3.work) (by subst hn3; rfl)
  refine o_stN one_57 rfl rfl ho19.pl (Upd.z RepoM.u_index) (rs (rs (rs (rs (rs (rs (rs r0))))))) (show (RepoM.enc (v5) (v6) (v7) ((.slice none 0 0)) z3) = _ from by subst hn3; rfl) ?_
  refine o_nil0 rfl ?_
  refine c_seq ?_
  refine c_region ?_
  refine o_T (y_move rfl) rfl ?_
  refine o_T (y_move rfl) rfl ?_
  refine o_T (y_nilck rfl) rfl ?_
  refine o_T (y_fa fl_59_5 rfl) rfl ?_
  refine o_ld one_57 rfl (ms (ms (ms (ms (ms (ms (ms (ms m0)))))))) (At.got (At.refl.comp RepoM.a_work)) rfl ?_
  obtain ⟨l4, hx4, hm⟩ := bd1 hm
  refine o_callC en_27 rfl s_nil (t27 (ho4.rd.mono (fun _ hz => (ms (ms (ms (ms (ms (ms (ms (ms (ms (ms (ms (ms (mg hz))))))))))))))) hx4) rfl (fun u4 S4 hR4 => ?_)
  obtain ⟨v8, g8, rfl, rfl, ho24⟩ := hR4
  refine o_rest ?_
  refine o_T (y_nilck rfl) rfl ?_
  refine o_T (y_fa fl_59_5 rfl) rfl ?_
  obtain ⟨z4, hn4, hm⟩ := nm_s hm
  have ho25 := ho20.to (l' := z4.nodes) (by subst hn4; rfl)
  have ho26 := ho21.to (l' := z4.refs) (by subst hn4; rfl)
  have ho27 := ho22.to (l' := z4.index) (by subst hn4; rfl)
  have ho28 := ho24.to (l' := z4.work) (by subst hn4; rfl)
  refine o_stN one_57 rfl rfl ho24.pl (Upd.z RepoM.u_work) (rs (rs (rs (rs (rs (rs (rs (rs r0)))))))) (show (RepoM.enc (v5) (v6) (v7) (v8) z4) = _ from by subst hn4; rfl) ?_
  refine o_nil0 rfl ?_
  refine c_seq ?_
  refine c_region ?_
  refine o_T (y_move rfl) rfl ?_
  refine o_L (y_assign rfl) rfl rfl ?_
  refine o_nil0 rfl ?_
  refine c_ret ?_
  obtain rfl := p1 hm
  refine fun aX wX heX hsX => ret1 Tryz.results12 heX rfl (s_get (ks (ks (ks (ks (ks (ks (ks (ks (ks k0))))))))) (s_get (ks (ks (ks (ks (ks (ks (ks (ks (ks k0))))))))) (s_get (ks (ks (ks (ks (ks (ks (ks (ks (ks k0))))))))) (s_get (ks (ks (ks (ks (ks (ks (ks (ks (ks k0))))))))) (s_get (ks (ks (ks (ks (ks (ks (ks (ks (ks k0))))))))) (s_get (ks (ks (ks (ks (ks (ks (ks (ks k0)))))))) (s_get (ks (ks (ks k0))) (s_get (ks (ks k0)) (s_get (ks k0) (s_take (s_skip (s_skip (s_skip (s_skip (s_take s_nil))))))))))))))) ?_
  exact ⟨b2, v5, _, v6, _, v7, _, v8, _, rfl, rfl, ho25, ho26, ho27, ho28⟩
end Go.Proofs.Qxb6500350aGreat
