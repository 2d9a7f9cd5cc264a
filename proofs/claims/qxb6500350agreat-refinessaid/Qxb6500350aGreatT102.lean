/- MADE BY PROGRAM (tools350/mir.py): mirror and walk. -/
import Derived.Test.Qxb6500350aGreatF2
import Derived.Test.Qxb6500350aGreatT183
import Derived.Test.Qxb6500350aGreatT115
import Derived.Test.Qxb6500350aGreatT184
set_option linter.unusedVariables false
set_option linter.unusedSimpArgs false
set_option maxRecDepth 20000
set_option maxHeartbeats 4000000
namespace Go.Proofs.Qxb6500350aGreat
open Go.Eng

def op_102_8 : Array Go.Oper := #[{ dst := some 40, op := Go.Op.move (Go.Operand.tmp 0), type := 33, pos := "cmd.go:176", after := #[], guard := none }, { dst := some 41, op := Go.Op.nilCheck (Go.Operand.tmp 40), type := 0, pos := "cmd.go:176", after := #[{ on := 0, ground := Go.Ground.data }], guard := none }, { dst := some 42, op := Go.Op.fieldAddr 130 (Go.Operand.tmp 41) 2, type := 0, pos := "cmd.go:176", after := #[{ on := 1, ground := Go.Ground.data }], guard := none }, { dst := some 43, op := Go.Op.load 32 (Go.Operand.tmp 42), type := 32, pos := "cmd.go:176", after := #[{ on := 2, ground := Go.Ground.data }], guard := none }, { dst := some 44, op := Go.Op.fieldAddr 71 (Go.Operand.tmp 6) 1, type := 0, pos := "cmd.go:176", after := #[], guard := none }, { dst := some 45, op := Go.Op.load 9 (Go.Operand.tmp 44), type := 9, pos := "cmd.go:176", after := #[{ on := 4, ground := Go.Ground.data }], guard := none }, { dst := some 46, op := Go.Op.move (Go.Operand.tmp 10), type := 9, pos := "cmd.go:176", after := #[], guard := none }, { dst := some 47, op := Go.Op.call { callee := Go.Callee.value (Go.Operand.func 184), args := #[Go.Operand.tmp 43, Go.Operand.tmp 45, Go.Operand.tmp 46], argTypes := #[32, 9, 9] }, type := 113, pos := "cmd.go:176", after := #[{ on := 3, ground := Go.Ground.data }, { on := 5, ground := Go.Ground.data }, { on := 6, ground := Go.Ground.data }], guard := none }, { dst := some 48, op := Go.Op.extract (Go.Operand.tmp 47) 0, type := 112, pos := "cmd.go:176", after := #[{ on := 7, ground := Go.Ground.data }], guard := none }, { dst := some 49, op := Go.Op.extract (Go.Operand.tmp 47) 1, type := 73, pos := "cmd.go:176", after := #[{ on := 7, ground := Go.Ground.data }], guard := none }, { dst := some 4, op := Go.Op.assign (Go.Operand.tmp 48), type := 112, pos := "cmd.go:176", after := #[{ on := 8, ground := Go.Ground.data }, { on := 7, ground := Go.Ground.chain }, { on := 0, ground := Go.Ground.phase }, { on := 1, ground := Go.Ground.phase }, { on := 2, ground := Go.Ground.phase }, { on := 3, ground := Go.Ground.phase }, { on := 4, ground := Go.Ground.phase }, { on := 5, ground := Go.Ground.phase }, { on := 6, ground := Go.Ground.phase }, { on := 7, ground := Go.Ground.phase }, { on := 8, ground := Go.Ground.phase }, { on := 9, ground := Go.Ground.phase }], guard := none }, { dst := some 5, op := Go.Op.assign (Go.Operand.tmp 49), type := 73, pos := "cmd.go:176", after := #[{ on := 9, ground := Go.Ground.data }, { on := 10, ground := Go.Ground.chain }, { on := 0, ground := Go.Ground.phase }, { on := 1, ground := Go.Ground.phase }, { on := 2, ground := Go.Ground.phase }, { on := 3, ground := Go.Ground.phase }, { on := 4, ground := Go.Ground.phase }, { on := 5, ground := Go.Ground.phase }, { on := 6, ground := Go.Ground.phase }, { on := 7, ground := Go.Ground.phase }, { on := 8, ground := Go.Ground.phase }, { on := 9, ground := Go.Ground.phase }, { on := 10, ground := Go.Ground.phase }], guard := none }]
theorem sb_102_8_0 : softB op_102_8 #[true, true, true, true, true, true, true, false, true, true, true, true] (Array.replicate 12 false) 0 = true := by kernel_rfl
theorem sb_102_8_1 : softB op_102_8 #[true, true, true, true, true, true, true, false, true, true, true, true] ((Array.replicate 12 false).setIfInBounds 0 true) 1 = true := by kernel_rfl
theorem sb_102_8_2 : softB op_102_8 #[true, true, true, true, true, true, true, false, true, true, true, true] (((Array.replicate 12 false).setIfInBounds 0 true).setIfInBounds 1 true) 2 = true := by kernel_rfl
theorem sb_102_8_3 : softB op_102_8 #[true, true, true, true, true, true, true, false, true, true, true, true] ((((Array.replicate 12 false).setIfInBounds 0 true).setIfInBounds 1 true).setIfInBounds 2 true) 3 = true := by kernel_rfl
theorem sb_102_8_4 : softB op_102_8 #[true, true, true, true, true, true, true, false, true, true, true, true] (((((Array.replicate 12 false).setIfInBounds 0 true).setIfInBounds 1 true).setIfInBounds 2 true).setIfInBounds 3 true) 4 = true := by kernel_rfl
theorem sb_102_8_5 : softB op_102_8 #[true, true, true, true, true, true, true, false, true, true, true, true] ((((((Array.replicate 12 false).setIfInBounds 0 true).setIfInBounds 1 true).setIfInBounds 2 true).setIfInBounds 3 true).setIfInBounds 4 true) 5 = true := by kernel_rfl
theorem sb_102_8_6 : softB op_102_8 #[true, true, true, true, true, true, true, false, true, true, true, true] (((((((Array.replicate 12 false).setIfInBounds 0 true).setIfInBounds 1 true).setIfInBounds 2 true).setIfInBounds 3 true).setIfInBounds 4 true).setIfInBounds 5 true) 6 = true := by kernel_rfl
theorem sb_102_8_7 : hardB op_102_8 ((((((((Array.replicate 12 false).setIfInBounds 0 true).setIfInBounds 1 true).setIfInBounds 2 true).setIfInBounds 3 true).setIfInBounds 4 true).setIfInBounds 5 true).setIfInBounds 6 true) [7] = true := by kernel_rfl
theorem sb_102_8_8 : softB op_102_8 #[true, true, true, true, true, true, true, false, true, true, true, true] (((((((((Array.replicate 12 false).setIfInBounds 0 true).setIfInBounds 1 true).setIfInBounds 2 true).setIfInBounds 3 true).setIfInBounds 4 true).setIfInBounds 5 true).setIfInBounds 6 true).setIfInBounds 7 true) 8 = true := by kernel_rfl
theorem sb_102_8_9 : softB op_102_8 #[true, true, true, true, true, true, true, false, true, true, true, true] ((((((((((Array.replicate 12 false).setIfInBounds 0 true).setIfInBounds 1 true).setIfInBounds 2 true).setIfInBounds 3 true).setIfInBounds 4 true).setIfInBounds 5 true).setIfInBounds 6 true).setIfInBounds 7 true).setIfInBounds 8 true) 9 = true := by kernel_rfl
theorem sb_102_8_10 : softB op_102_8 #[true, true, true, true, true, true, true, false, true, true, true, true] (((((((((((Array.replicate 12 false).setIfInBounds 0 true).setIfInBounds 1 true).setIfInBounds 2 true).setIfInBounds 3 true).setIfInBounds 4 true).setIfInBounds 5 true).setIfInBounds 6 true).setIfInBounds 7 true).setIfInBounds 8 true).setIfInBounds 9 true) 10 = true := by kernel_rfl
theorem sb_102_8_11 : softB op_102_8 #[true, true, true, true, true, true, true, false, true, true, true, true] ((((((((((((Array.replicate 12 false).setIfInBounds 0 true).setIfInBounds 1 true).setIfInBounds 2 true).setIfInBounds 3 true).setIfInBounds 4 true).setIfInBounds 5 true).setIfInBounds 6 true).setIfInBounds 7 true).setIfInBounds 8 true).setIfInBounds 9 true).setIfInBounds 10 true) 11 = true := by kernel_rfl
theorem sb_102_8_12 : hardB op_102_8 (((((((((((((Array.replicate 12 false).setIfInBounds 0 true).setIfInBounds 1 true).setIfInBounds 2 true).setIfInBounds 3 true).setIfInBounds 4 true).setIfInBounds 5 true).setIfInBounds 6 true).setIfInBounds 7 true).setIfInBounds 8 true).setIfInBounds 9 true).setIfInBounds 10 true).setIfInBounds 11 true) [] = true := by kernel_rfl
/- (*repo.Repo).Diff -/
def m102 (n : Nat) (r : RepoR) (e : Engine) (x : Index) (path : Str) : Option ((List Hunk) × Int × Engine) :=
ob2 (m183 n x path) fun x1 c1 =>
nm (x1 : File) fun z1 =>
ob2 (m115 n r path) fun c2 c3 =>
cond ((decide (¬ (c1 = 0))) && (!c3)) (
some (([] : List Hunk), 13, e)) (
cond c3 (
Option.bind (ckA c2 8) fun _ =>
ob3 (m184 n e z1.data ((r.work c2).data)) fun l1 c4 z2 =>
some (l1, c4, z2)) (
ob3 (m184 n e z1.data []) fun l2 c5 z3 =>
some (l2, c5, z3)))
theorem t102 {n : Nat} {C : List Chunk} {rl1 : List Hunk} {rc1 : Int} {rz1 : Engine} {b1 : Nat} {r : RepoR} {q1 : Option Addr} {b2 : Nat} {x : Index} {b3 : Nat} {e : Engine} {v1 : Value} {g1 : List Chunk} {v2 : Value} {g2 : List Chunk} {v3 : Value} {g3 : List Chunk} {path : Str} (ho1 : Own rStr v1 e.line_ g1) (ho2 : Own rInt v2 e.sum g2) (ho3 : Own rInt v3 e.nxt g3)  (hm : m102 n r e x path = some (rl1, rc1, rz1)) : Trip Tryz.prog 102 #[.pointer (some ⟨b1, 0, none⟩), .string ⟨(path : Str).toArray⟩] ([[(b1, .cells (RepoR.enc ((.pointer q1)) (.pointer (some ⟨b2, 0, none⟩)) (.pointer (some ⟨b3, 0, none⟩)) r).toArray 130 (0, 0))], [(b3, .cells (Engine.enc (v1) (v2) (v3) e).toArray 187 (0, 0))], g1, g2, g3, [(b2, .cells (Index.enc x).toArray 184 (0, 0))]] ++ [C]) (fun u S' => ∃ (ev1 : Value), ∃ (eg1 : List Chunk), ∃ (ev2 : Value), ∃ (eg2 : List Chunk), ∃ (ev3 : Value), ∃ (eg3 : List Chunk), ∃ (ev4 : Value), ∃ (eg4 : List Chunk), .tuple #[ev1, .int .i64 rc1] = u ∧ S' = [[(b1, .cells (RepoR.enc ((.pointer q1)) (.pointer (some ⟨b2, 0, none⟩)) (.pointer (some ⟨b3, 0, none⟩)) r).toArray 130 (0, 0))], [(b3, .cells (Engine.enc (ev2) (ev3) (ev4) rz1).toArray 187 (0, 0))], eg2, eg3, eg4, [(b2, .cells (Index.enc x).toArray 184 (0, 0))], eg1] ++ [C] ∧ Own rHunk ev1 rl1 eg1 ∧ Own rStr ev2 rz1.line_ eg2 ∧ Own rInt ev3 rz1.sum eg3 ∧ Own rInt ev4 rz1.nxt eg4) := by
  refine fn_entry (args := [.pointer (some ⟨b1, 0, none⟩), .string ⟨(path : Str).toArray⟩]) Tryz.func102 rfl Tryz.ntmps102 rfl (fun w0 => ?_)
  refine c_seq ?_
  refine c_region ?_
  have ho4 : Own rHunk (.slice none 0 0) [] [] := Own.nil
  refine o_emp ?_
  refine o_L (y_assign rfl) rfl rfl ?_
  refine o_L (y_assign rfl) rfl rfl ?_
  refine o_nil0 rfl ?_
  refine c_seq ?_
  refine c_region ?_
  refine o_T (y_move rfl) rfl ?_
  refine o_T (y_nilck rfl) rfl ?_
  refine o_T (y_fa fl_130_1 rfl) rfl ?_
  refine o_ld one_31 rfl (ms m0) (At.got (At.refl.comp RepoR.a_x)) rfl ?_
  refine o_T (y_move rfl) rfl ?_
  obtain ⟨x1, c1, hx1, hm⟩ := bd2 hm
  refine o_callC en_183 rfl (s_skip (s_skip (s_skip (s_skip (s_skip (s_skip (s_take s_nil))))))) (t183 hx1) rfl (fun u1 S1 hR1 => ?_)
  obtain ⟨rfl, rfl⟩ := hR1
  refine o_rest ?_
  refine o_T (y_move rfl) rfl ?_
  refine o_T (y_extract rfl rfl) rfl ?_
  refine o_T (y_extract rfl rfl) rfl ?_
  refine o_alloc ze_71 rfl rfl (fun b4 => ?_)
  obtain ⟨z1, hn1, hm⟩ := nm_s hm
  refine o_stNA ag_71 rfl rfl (File.plain _) (File.len _) (Upd.refl ((File.len _).trans (File.len _).symm)) r0 (show (File.enc z1) = _ from by subst hn1; rfl) ?_
  refine o_L (y_assign rfl) rfl rfl ?_
  refine o_nil0 rfl ?_
  refine c_seq ?_
  refine c_region ?_
  refine o_T (y_move rfl) rfl ?_
  refine o_T (y_move rfl) rfl ?_
  obtain ⟨c2, c3, hx2, hm⟩ := bd2 hm
  refine o_callC en_115 rfl (s_skip (s_skip (s_skip (s_take s_nil)))) (t115 hx2) rfl (fun u2 S2 hR2 => ?_)
  obtain ⟨rfl, rfl⟩ := hR2
  refine o_rest ?_
  refine o_T (y_move rfl) rfl ?_
  refine o_T (y_extract rfl rfl) rfl ?_
  refine o_T (y_extract rfl rfl) rfl ?_
  refine o_L (y_assign rfl) rfl rfl ?_
  refine o_L (y_assign rfl) rfl rfl ?_
  refine o_nil0 rfl ?_
  refine c_seq ?_
  refine c_seq ?_
  refine c_joinP (n := 0) (fun sh G => sh = [(31, .bool ((decide (¬ (c1 = 0))) && (!c3)))] ∧ G = []) Sel.all' .z (fun _ _ h => h) ?_ ?_
  · skip
    refine c_region ?_
    refine o_T (y_move rfl) rfl ?_
    refine o_T (y_neq rfl rfl) rfl ?_
    refine o_T (y_move rfl) rfl ?_
    refine o_split 28 rfl (fun h1 => ?_) (fun h1 => ?_)
    · skip
      refine o_take rfl rfl rfl ?_
      refine o_T (y_move rfl) rfl ?_
      refine o_take rfl rfl rfl ?_
      refine o_T (y_not rfl) rfl ?_
      refine o_T (y_pickT rfl rfl) rfl ?_
      refine o_nil1 31 rfl rfl ?_
      refine ⟨_, _, ⟨rfl, rfl⟩, ⟨by first | rfl | exact gtb rfl (by simp only [h1, Bool.true_and, Bool.false_and, Bool.true_or, Bool.false_or, Bool.and_true, Bool.and_false, Bool.or_true, Bool.or_false, Bool.not_true, Bool.not_false]), trivial⟩, ⟨rfl, rfl⟩, _, (s_take (s_take (s_take (s_take (s_take (s_take (s_take (s_take (s_take s_nil)))))))))⟩
    · skip
      refine o_pass rfl rfl rfl rfl rfl ?_
      refine o_pass rfl rfl rfl rfl rfl ?_
      refine o_T (y_pickF rfl rfl) rfl ?_
      refine o_nil1 31 rfl rfl ?_
      refine ⟨_, _, ⟨rfl, rfl⟩, ⟨by first | rfl | exact gtb rfl (by simp only [h1, Bool.true_and, Bool.false_and, Bool.true_or, Bool.false_or, Bool.and_true, Bool.and_false, Bool.or_true, Bool.or_false, Bool.not_true, Bool.not_false]), trivial⟩, ⟨rfl, rfl⟩, _, (s_take (s_take (s_take (s_take (s_take (s_take (s_take (s_take (s_take s_nil)))))))))⟩
  · rintro sh G ⟨rfl, rfl⟩
    refine c_cond rfl (fun h2 => ?_) (fun h2 => ?_)
    · have hm := cd_t h2 hm
      refine c_seq ?_
      refine c_region ?_
      have ho5 : Own rHunk (.slice none 0 0) [] [] := Own.nil
      refine o_emp ?_
      refine o_L (y_assign rfl) rfl rfl ?_
      refine o_L (y_assign rfl) rfl rfl ?_
      refine o_nil0 rfl ?_
      refine c_ret ?_
      obtain ⟨rfl, rfl, rfl⟩ := pr3 hm
      refine fun aX wX heX hsX => ret2 Tryz.results102 heX rfl rfl (s_get (ks k0) (s_get (ks (ks (ks (ks k0)))) (s_get (ks (ks (ks (ks k0)))) (s_get (ks (ks (ks (ks k0)))) (s_get (ks (ks (ks (ks k0)))) (s_get (ks (ks k0)) (s_take (s_skip (s_skip (s_take s_nil)))))))))) ?_
      exact ⟨(.slice none 0 0), _, v1, _, v2, _, v3, _, rfl, rfl, ho5, ho1, ho2, ho3⟩
    · have hm := cd_f h2 hm
      refine c_skip ?_
      refine c_seq ?_
      refine c_region ?_
      refine o_L (y_assign rfl) rfl rfl ?_
      refine o_nil0 rfl ?_
      refine c_seq ?_
      refine c_seq ?_
      refine c_region ?_
      refine o_T (y_move rfl) rfl ?_
      refine o_nil1 32 rfl rfl ?_
      refine c_cond rfl (fun h3 => ?_) (fun h3 => ?_)
      · have hm := cd_t h3 hm
        refine c_region ?_
        refine o_T (y_move rfl) rfl ?_
        refine o_T (y_move rfl) rfl ?_
        refine o_T (y_nilck rfl) rfl ?_
        refine o_T (y_fa fl_130_3 rfl) rfl ?_
        obtain ⟨_, hx3, hm⟩ := bd hm
        have hx3 := ckA_some hx3
        refine o_T (y_ia ar_128 rfl rfl hx3.1 hx3.2) rfl ?_
        refine o_T (y_fa fl_71_1 rfl) rfl ?_
        refine o_ld one_9 rfl m0 (At.got (((At.refl.comp RepoR.a_work).comp (encN_a File.len _ _ hx3.1 _ hx3.2)).comp File.a_data)) rfl ?_
        refine o_L (y_assign rfl) rfl rfl ?_
        refine o_nil0 rfl ?_
        refine c_seq ?_
        refine c_draw #[true, true, true, true, true, true, true, false, true, true, true, true] rfl (n := 12) rfl ?_
        refine d_T 0 rfl sb_102_8_0 rfl (y_move rfl) rfl ?_
        refine d_T 1 rfl sb_102_8_1 rfl (y_nilck rfl) rfl ?_
        refine d_T 2 rfl sb_102_8_2 rfl (y_fa fl_130_2 rfl) rfl ?_
        refine d_ld 3 rfl sb_102_8_3 one_32 rfl (fun x hx => hx) m0 (At.got (At.refl.comp RepoR.a_d)) rfl ?_
        refine d_T 4 rfl sb_102_8_4 rfl (y_fa fl_71_1 rfl) rfl ?_
        refine d_ld 5 rfl sb_102_8_5 one_9 rfl (fun x hx => hx) (ms m0) (At.got (At.refl.comp File.a_data)) rfl ?_
        refine d_T 6 rfl sb_102_8_6 rfl (y_move rfl) rfl ?_
        refine d_hard 7 rfl sb_102_8_7 ?_
        obtain ⟨l1, c4, z2, hx4, hm⟩ := bd3 hm
        refine o_callC en_184 rfl (s_skip (s_skip (s_skip (s_skip (s_take (s_take (s_take (s_take s_nil)))))))) (t184 ho1 ho2 ho3 hx4) rfl (fun u3 S3 hR3 => ?_)
        obtain ⟨v4, g4, v5, g5, v6, g6, v7, g7, rfl, rfl, ho6, ho7, ho8, ho9⟩ := hR3
        refine o_rest ?_
        refine o_stop (fun h => nomatch h) ?_
        refine d_T 8 rfl sb_102_8_8 rfl (y_extract rfl rfl) rfl ?_
        refine d_T 9 rfl sb_102_8_9 rfl (y_extract rfl rfl) rfl ?_
        refine d_L 10 rfl sb_102_8_10 rfl (y_assign rfl) rfl rfl ?_
        refine d_L 11 rfl sb_102_8_11 rfl (y_assign rfl) rfl rfl ?_
        refine d_nil0 sb_102_8_12 rfl ?_
        refine c_ret ?_
        obtain ⟨rfl, rfl, rfl⟩ := pr3 hm
        refine fun aX wX heX hsX => ret2 Tryz.results102 heX rfl rfl (s_get (ks (ks (ks (ks (ks k0))))) (s_take (s_take (s_take (s_take (s_get (ks (ks k0)) (s_take (s_skip (s_skip (s_take s_nil)))))))))) ?_
        exact ⟨v4, _, v5, _, v6, _, v7, _, rfl, rfl, ho6, ho7, ho8, ho9⟩
      · have hm := cd_f h3 hm
        refine c_skip ?_
        refine c_seq ?_
        refine c_draw #[true, true, true, true, true, true, true, false, true, true, true, true] rfl (n := 12) rfl ?_
        refine d_T 0 rfl sb_102_8_0 rfl (y_move rfl) rfl ?_
        refine d_T 1 rfl sb_102_8_1 rfl (y_nilck rfl) rfl ?_
        refine d_T 2 rfl sb_102_8_2 rfl (y_fa fl_130_2 rfl) rfl ?_
        refine d_ld 3 rfl sb_102_8_3 one_32 rfl (fun x hx => hx) m0 (At.got (At.refl.comp RepoR.a_d)) rfl ?_
        refine d_T 4 rfl sb_102_8_4 rfl (y_fa fl_71_1 rfl) rfl ?_
        refine d_ld 5 rfl sb_102_8_5 one_9 rfl (fun x hx => hx) (ms m0) (At.got (At.refl.comp File.a_data)) rfl ?_
        refine d_T 6 rfl sb_102_8_6 rfl (y_move rfl) rfl ?_
        refine d_hard 7 rfl sb_102_8_7 ?_
        obtain ⟨l2, c5, z3, hx5, hm⟩ := bd3 hm
        refine o_callC en_184 rfl (s_skip (s_skip (s_skip (s_skip (s_take (s_take (s_take (s_take s_nil)))))))) (t184 ho1 ho2 ho3 hx5) rfl (fun u4 S4 hR4 => ?_)
        obtain ⟨v8, g8, v9, g9, v10, g10, v11, g11, rfl, rfl, ho10, ho11, ho12, ho13⟩ := hR4
        refine o_rest ?_
        refine o_stop (fun h => nomatch h) ?_
        refine d_T 8 rfl sb_102_8_8 rfl (y_extract rfl rfl) rfl ?_
        refine d_T 9 rfl sb_102_8_9 rfl (y_extract rfl rfl) rfl ?_
        refine d_L 10 rfl sb_102_8_10 rfl (y_assign rfl) rfl rfl ?_
        refine d_L 11 rfl sb_102_8_11 rfl (y_assign rfl) rfl rfl ?_
        refine d_nil0 sb_102_8_12 rfl ?_
        refine c_ret ?_
        obtain ⟨rfl, rfl, rfl⟩ := pr3 hm
        refine fun aX wX heX hsX => ret2 Tryz.results102 heX rfl rfl (s_get (ks (ks (ks (ks (ks k0))))) (s_take (s_take (s_take (s_take (s_get (ks (ks k0)) (s_take (s_skip (s_skip (s_take s_nil)))))))))) ?_
        exact ⟨v8, _, v9, _, v10, _, v11, _, rfl, rfl, ho10, ho11, ho12, ho13⟩
end Go.Proofs.Qxb6500350aGreat
