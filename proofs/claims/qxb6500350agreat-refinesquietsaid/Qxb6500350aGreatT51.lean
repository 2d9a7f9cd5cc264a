/- MADE BY PROGRAM (tools350/mir.py): mirror and walk. -/
import Derived.Test.Qxb6500350aGreatF2
import Derived.Test.Qxb6500350aGreatT115
import Derived.Test.Qxb6500350aGreatT120
import Derived.Test.Qxb6500350aGreatT121
import Derived.Test.Qxb6500350aGreatT122
import Derived.Test.Qxb6500350aGreatT123
set_option linter.unusedVariables false
set_option linter.unusedSimpArgs false
set_option maxRecDepth 20000
set_option maxHeartbeats 4000000
namespace Go.Proofs.Qxb6500350aGreat
open Go.Eng

def op_51_4 : Array Go.Oper := #[{ dst := some 16, op := Go.Op.move (Go.Operand.tmp 0), type := 33, pos := "cmd.go:12", after := #[], guard := none }, { dst := some 17, op := Go.Op.nilCheck (Go.Operand.tmp 16), type := 0, pos := "cmd.go:12", after := #[{ on := 0, ground := Go.Ground.data }], guard := none }, { dst := some 18, op := Go.Op.fieldAddr 130 (Go.Operand.tmp 17) 1, type := 0, pos := "cmd.go:12", after := #[{ on := 1, ground := Go.Ground.data }], guard := none }, { dst := some 19, op := Go.Op.load 31 (Go.Operand.tmp 18), type := 31, pos := "cmd.go:12", after := #[{ on := 2, ground := Go.Ground.data }], guard := none }, { dst := some 20, op := Go.Op.move (Go.Operand.tmp 1), type := 9, pos := "cmd.go:12", after := #[], guard := none }, { dst := some 21, op := Go.Op.move (Go.Operand.tmp 0), type := 33, pos := "cmd.go:12", after := #[], guard := none }, { dst := some 22, op := Go.Op.move (Go.Operand.tmp 5), type := 3, pos := "cmd.go:12", after := #[], guard := none }, { dst := some 23, op := Go.Op.nilCheck (Go.Operand.tmp 21), type := 0, pos := "cmd.go:12", after := #[{ on := 5, ground := Go.Ground.data }], guard := none }, { dst := some 24, op := Go.Op.fieldAddr 130 (Go.Operand.tmp 23) 3, type := 0, pos := "cmd.go:12", after := #[{ on := 7, ground := Go.Ground.data }], guard := none }, { dst := some 25, op := Go.Op.indexAddr 128 (Go.Operand.tmp 24) (Go.Operand.tmp 22), type := 0, pos := "cmd.go:12", after := #[{ on := 8, ground := Go.Ground.data }, { on := 6, ground := Go.Ground.data }], guard := none }, { dst := some 26, op := Go.Op.fieldAddr 71 (Go.Operand.tmp 25) 1, type := 0, pos := "cmd.go:12", after := #[{ on := 9, ground := Go.Ground.data }], guard := none }, { dst := some 27, op := Go.Op.load 9 (Go.Operand.tmp 26), type := 9, pos := "cmd.go:12", after := #[{ on := 10, ground := Go.Ground.data }], guard := none }, { dst := some 28, op := Go.Op.build 71 #[(0, Go.Operand.tmp 20), (1, Go.Operand.tmp 27)], type := 71, pos := "cmd.go:12", after := #[{ on := 4, ground := Go.Ground.data }, { on := 11, ground := Go.Ground.data }], guard := none }, { dst := some 29, op := Go.Op.call { callee := Go.Callee.value (Go.Operand.func 120), args := #[Go.Operand.tmp 19, Go.Operand.tmp 28], argTypes := #[31, 71] }, type := 73, pos := "cmd.go:12", after := #[{ on := 3, ground := Go.Ground.data }, { on := 12, ground := Go.Ground.data }], guard := none }, { dst := some 7, op := Go.Op.assign (Go.Operand.tmp 29), type := 73, pos := "cmd.go:12", after := #[{ on := 13, ground := Go.Ground.data }, { on := 13, ground := Go.Ground.chain }, { on := 0, ground := Go.Ground.phase }, { on := 1, ground := Go.Ground.phase }, { on := 2, ground := Go.Ground.phase }, { on := 3, ground := Go.Ground.phase }, { on := 4, ground := Go.Ground.phase }, { on := 5, ground := Go.Ground.phase }, { on := 6, ground := Go.Ground.phase }, { on := 7, ground := Go.Ground.phase }, { on := 8, ground := Go.Ground.phase }, { on := 9, ground := Go.Ground.phase }, { on := 10, ground := Go.Ground.phase }, { on := 11, ground := Go.Ground.phase }, { on := 12, ground := Go.Ground.phase }, { on := 13, ground := Go.Ground.phase }], guard := none }]
theorem sb_51_4_0 : softB op_51_4 #[true, true, true, true, true, true, true, true, true, true, true, true, true, false, true] (Array.replicate 15 false) 0 = true := by kernel_rfl
theorem sb_51_4_1 : softB op_51_4 #[true, true, true, true, true, true, true, true, true, true, true, true, true, false, true] ((Array.replicate 15 false).setIfInBounds 0 true) 1 = true := by kernel_rfl
theorem sb_51_4_2 : softB op_51_4 #[true, true, true, true, true, true, true, true, true, true, true, true, true, false, true] (((Array.replicate 15 false).setIfInBounds 0 true).setIfInBounds 1 true) 2 = true := by kernel_rfl
theorem sb_51_4_3 : softB op_51_4 #[true, true, true, true, true, true, true, true, true, true, true, true, true, false, true] ((((Array.replicate 15 false).setIfInBounds 0 true).setIfInBounds 1 true).setIfInBounds 2 true) 3 = true := by kernel_rfl
theorem sb_51_4_4 : softB op_51_4 #[true, true, true, true, true, true, true, true, true, true, true, true, true, false, true] (((((Array.replicate 15 false).setIfInBounds 0 true).setIfInBounds 1 true).setIfInBounds 2 true).setIfInBounds 3 true) 4 = true := by kernel_rfl
theorem sb_51_4_5 : softB op_51_4 #[true, true, true, true, true, true, true, true, true, true, true, true, true, false, true] ((((((Array.replicate 15 false).setIfInBounds 0 true).setIfInBounds 1 true).setIfInBounds 2 true).setIfInBounds 3 true).setIfInBounds 4 true) 5 = true := by kernel_rfl
theorem sb_51_4_6 : softB op_51_4 #[true, true, true, true, true, true, true, true, true, true, true, true, true, false, true] (((((((Array.replicate 15 false).setIfInBounds 0 true).setIfInBounds 1 true).setIfInBounds 2 true).setIfInBounds 3 true).setIfInBounds 4 true).setIfInBounds 5 true) 6 = true := by kernel_rfl
theorem sb_51_4_7 : softB op_51_4 #[true, true, true, true, true, true, true, true, true, true, true, true, true, false, true] ((((((((Array.replicate 15 false).setIfInBounds 0 true).setIfInBounds 1 true).setIfInBounds 2 true).setIfInBounds 3 true).setIfInBounds 4 true).setIfInBounds 5 true).setIfInBounds 6 true) 7 = true := by kernel_rfl
theorem sb_51_4_8 : softB op_51_4 #[true, true, true, true, true, true, true, true, true, true, true, true, true, false, true] (((((((((Array.replicate 15 false).setIfInBounds 0 true).setIfInBounds 1 true).setIfInBounds 2 true).setIfInBounds 3 true).setIfInBounds 4 true).setIfInBounds 5 true).setIfInBounds 6 true).setIfInBounds 7 true) 8 = true := by kernel_rfl
theorem sb_51_4_9 : softB op_51_4 #[true, true, true, true, true, true, true, true, true, true, true, true, true, false, true] ((((((((((Array.replicate 15 false).setIfInBounds 0 true).setIfInBounds 1 true).setIfInBounds 2 true).setIfInBounds 3 true).setIfInBounds 4 true).setIfInBounds 5 true).setIfInBounds 6 true).setIfInBounds 7 true).setIfInBounds 8 true) 9 = true := by kernel_rfl
theorem sb_51_4_10 : softB op_51_4 #[true, true, true, true, true, true, true, true, true, true, true, true, true, false, true] (((((((((((Array.replicate 15 false).setIfInBounds 0 true).setIfInBounds 1 true).setIfInBounds 2 true).setIfInBounds 3 true).setIfInBounds 4 true).setIfInBounds 5 true).setIfInBounds 6 true).setIfInBounds 7 true).setIfInBounds 8 true).setIfInBounds 9 true) 10 = true := by kernel_rfl
theorem sb_51_4_11 : softB op_51_4 #[true, true, true, true, true, true, true, true, true, true, true, true, true, false, true] ((((((((((((Array.replicate 15 false).setIfInBounds 0 true).setIfInBounds 1 true).setIfInBounds 2 true).setIfInBounds 3 true).setIfInBounds 4 true).setIfInBounds 5 true).setIfInBounds 6 true).setIfInBounds 7 true).setIfInBounds 8 true).setIfInBounds 9 true).setIfInBounds 10 true) 11 = true := by kernel_rfl
theorem sb_51_4_12 : softB op_51_4 #[true, true, true, true, true, true, true, true, true, true, true, true, true, false, true] (((((((((((((Array.replicate 15 false).setIfInBounds 0 true).setIfInBounds 1 true).setIfInBounds 2 true).setIfInBounds 3 true).setIfInBounds 4 true).setIfInBounds 5 true).setIfInBounds 6 true).setIfInBounds 7 true).setIfInBounds 8 true).setIfInBounds 9 true).setIfInBounds 10 true).setIfInBounds 11 true) 12 = true := by kernel_rfl
theorem sb_51_4_13 : hardB op_51_4 ((((((((((((((Array.replicate 15 false).setIfInBounds 0 true).setIfInBounds 1 true).setIfInBounds 2 true).setIfInBounds 3 true).setIfInBounds 4 true).setIfInBounds 5 true).setIfInBounds 6 true).setIfInBounds 7 true).setIfInBounds 8 true).setIfInBounds 9 true).setIfInBounds 10 true).setIfInBounds 11 true).setIfInBounds 12 true) [13] = true := by kernel_rfl
theorem sb_51_4_14 : softB op_51_4 #[true, true, true, true, true, true, true, true, true, true, true, true, true, false, true] (((((((((((((((Array.replicate 15 false).setIfInBounds 0 true).setIfInBounds 1 true).setIfInBounds 2 true).setIfInBounds 3 true).setIfInBounds 4 true).setIfInBounds 5 true).setIfInBounds 6 true).setIfInBounds 7 true).setIfInBounds 8 true).setIfInBounds 9 true).setIfInBounds 10 true).setIfInBounds 11 true).setIfInBounds 12 true).setIfInBounds 13 true) 14 = true := by kernel_rfl
theorem sb_51_4_15 : hardB op_51_4 ((((((((((((((((Array.replicate 15 false).setIfInBounds 0 true).setIfInBounds 1 true).setIfInBounds 2 true).setIfInBounds 3 true).setIfInBounds 4 true).setIfInBounds 5 true).setIfInBounds 6 true).setIfInBounds 7 true).setIfInBounds 8 true).setIfInBounds 9 true).setIfInBounds 10 true).setIfInBounds 11 true).setIfInBounds 12 true).setIfInBounds 13 true).setIfInBounds 14 true) [] = true := by kernel_rfl
/- (*repo.Repo).Add -/
def m51 (n : Nat) (r : RepoR) (g : Graph) (t : Trees) (s : Store) (d : Dev) (x : Index) (path : Str) : Option (Int × Graph × Trees × Store × Dev × Index) :=
ob2 (m115 n r path) fun c1 c2 =>
cond c2 (
Option.bind (ckA c1 8) fun _ =>
ob2 (m120 n x ({ File.zero with path := path, data := (r.work c1).data })) fun c3 z1 =>
cond (decide (¬ (c3 = 0))) (
some (c3, g, t, s, d, z1)) (
ob1 (m122 n z1) fun l1 =>
ob6 (m123 n r g t s d z1 l1) fun c4 z2 z3 z4 z5 z6 =>
some (c4, z2, z3, z4, z5, z6))) (
ob2 (m121 n x path) fun c5 z7 =>
cond (decide (¬ (c5 = 0))) (
some (c5, g, t, s, d, z7)) (
ob1 (m122 n z7) fun l2 =>
ob6 (m123 n r g t s d z7 l2) fun c6 z8 z9 z10 z11 z12 =>
some (c6, z8, z9, z10, z11, z12)))
theorem t51 {n : Nat} {C : List Chunk} {rc1 : Int} {rz1 : Graph} {rz2 : Trees} {rz3 : Store} {rz4 : Dev} {rz5 : Index} {b1 : Nat} {r : RepoR} {b2 : Nat} {g : Graph} {b3 : Nat} {t : Trees} {b4 : Nat} {s : Store} {b5 : Nat} {d : Dev} {v1 : Value} {g1 : List Chunk} {v2 : Value} {g2 : List Chunk} {v3 : Value} {g3 : List Chunk} {v4 : Value} {g4 : List Chunk} {b6 : Nat} {x : Index} {q1 : Option Addr} {path : Str} (ho1 : Own rByte v1 d.blk g1) (ho2 : Own rByte v2 d.base g2) (ho3 : Own rInt v3 d.at_ g3) (ho4 : Own rByte v4 d.data g4)  (hm : m51 n r g t s d x path = some (rc1, rz1, rz2, rz3, rz4, rz5)) : Trip Tryz.prog 51 #[.pointer (some ⟨b1, 0, none⟩), .string ⟨(path : Str).toArray⟩] ([[(b1, .cells (RepoR.enc (.pointer (some ⟨b2, 0, none⟩)) (.pointer (some ⟨b6, 0, none⟩)) ((.pointer q1)) r).toArray 130 (0, 0))], [(b2, .cells (Graph.enc (.pointer (some ⟨b3, 0, none⟩)) g).toArray 179 (0, 0))], [(b3, .cells (Trees.enc (.pointer (some ⟨b4, 0, none⟩)) t).toArray 169 (0, 0))], [(b4, .cells (Store.enc (.pointer (some ⟨b5, 0, none⟩)) s).toArray 126 (0, 0))], [(b5, .cells (Dev.enc (v1) (v2) (v3) (v4) d).toArray 85 (0, 0))], g1, g2, g3, g4, [(b6, .cells (Index.enc x).toArray 184 (0, 0))]] ++ [C]) (fun u S' => ∃ (ev1 : Value), ∃ (eg1 : List Chunk), ∃ (ev2 : Value), ∃ (eg2 : List Chunk), ∃ (ev3 : Value), ∃ (eg3 : List Chunk), ∃ (ev4 : Value), ∃ (eg4 : List Chunk), .int .i64 rc1 = u ∧ S' = [[(b1, .cells (RepoR.enc (.pointer (some ⟨b2, 0, none⟩)) (.pointer (some ⟨b6, 0, none⟩)) ((.pointer q1)) r).toArray 130 (0, 0))], [(b2, .cells (Graph.enc (.pointer (some ⟨b3, 0, none⟩)) rz1).toArray 179 (0, 0))], [(b3, .cells (Trees.enc (.pointer (some ⟨b4, 0, none⟩)) rz2).toArray 169 (0, 0))], [(b4, .cells (Store.enc (.pointer (some ⟨b5, 0, none⟩)) rz3).toArray 126 (0, 0))], [(b5, .cells (Dev.enc (ev1) (ev2) (ev3) (ev4) rz4).toArray 85 (0, 0))], eg1, eg2, eg3, eg4, [(b6, .cells (Index.enc rz5).toArray 184 (0, 0))]] ++ [C] ∧ Own rByte ev1 rz4.blk eg1 ∧ Own rByte ev2 rz4.base eg2 ∧ Own rInt ev3 rz4.at_ eg3 ∧ Own rByte ev4 rz4.data eg4) := by
  refine fn_entry (args := [.pointer (some ⟨b1, 0, none⟩), .string ⟨(path : Str).toArray⟩]) Tryz.func51 rfl Tryz.ntmps51 rfl (fun w0 => ?_)
  refine c_seq ?_
  refine c_region ?_
  refine o_L (y_assign rfl) rfl rfl ?_
  refine o_nil0 rfl ?_
  refine c_seq ?_
  refine c_region ?_
  refine o_T (y_move rfl) rfl ?_
  refine o_T (y_move rfl) rfl ?_
  obtain ⟨c1, c2, hx1, hm⟩ := bd2 hm
  refine o_callC en_115 rfl (s_take s_nil) (t115 hx1) rfl (fun u1 S1 hR1 => ?_)
  obtain ⟨rfl, rfl⟩ := hR1
  refine o_rest ?_
  refine o_T (y_move rfl) rfl ?_
  refine o_T (y_extract rfl rfl) rfl ?_
  refine o_T (y_extract rfl rfl) rfl ?_
  refine o_L (y_assign rfl) rfl rfl ?_
  refine o_L (y_assign rfl) rfl rfl ?_
  refine o_nil0 rfl ?_
  refine c_seq ?_
  refine c_region ?_
  refine o_L (y_assign rfl) rfl rfl ?_
  refine o_nil0 rfl ?_
  refine c_seq ?_
  refine c_seq ?_
  refine c_region ?_
  refine o_T (y_move rfl) rfl ?_
  refine o_nil1 15 rfl rfl ?_
  refine c_cond rfl (fun h1 => ?_) (fun h1 => ?_)
  · have hm := cd_t h1 hm
    refine c_draw #[true, true, true, true, true, true, true, true, true, true, true, true, true, false, true] rfl (n := 15) rfl ?_
    refine d_T 0 rfl sb_51_4_0 rfl (y_move rfl) rfl ?_
    refine d_T 1 rfl sb_51_4_1 rfl (y_nilck rfl) rfl ?_
    refine d_T 2 rfl sb_51_4_2 rfl (y_fa fl_130_1 rfl) rfl ?_
    refine d_ld 3 rfl sb_51_4_3 one_31 rfl (fun x hx => hx) m0 (At.got (At.refl.comp RepoR.a_x)) rfl ?_
    refine d_T 4 rfl sb_51_4_4 rfl (y_move rfl) rfl ?_
    refine d_T 5 rfl sb_51_4_5 rfl (y_move rfl) rfl ?_
    refine d_T 6 rfl sb_51_4_6 rfl (y_move rfl) rfl ?_
    refine d_T 7 rfl sb_51_4_7 rfl (y_nilck rfl) rfl ?_
    refine d_T 8 rfl sb_51_4_8 rfl (y_fa fl_130_3 rfl) rfl ?_
    obtain ⟨_, hx2, hm⟩ := bd hm
    have hx2 := ckA_some hx2
    refine d_T 9 rfl sb_51_4_9 rfl (y_ia ar_128 rfl rfl hx2.1 hx2.2) rfl ?_
    refine d_T 10 rfl sb_51_4_10 rfl (y_fa fl_71_1 rfl) rfl ?_
    refine d_ld 11 rfl sb_51_4_11 one_9 rfl (fun x hx => hx) m0 (At.got (((At.refl.comp RepoR.a_work).comp (encN_a File.len _ _ hx2.1 _ hx2.2)).comp File.a_data)) rfl ?_
    refine d_T 12 rfl sb_51_4_12 rfl (y_build st_71 rfl (fbU rfl File.u_path rfl rfl (fbU rfl File.u_data rfl rfl fbU0))) rfl ?_
    refine d_hard 13 rfl sb_51_4_13 ?_
    obtain ⟨c3, z1, hx3, hm⟩ := bd2 hm
    refine o_callC en_120 rfl (s_skip (s_skip (s_skip (s_skip (s_skip (s_skip (s_skip (s_skip (s_skip (s_take s_nil)))))))))) (t120 hx3) rfl (fun u2 S2 hR2 => ?_)
    obtain ⟨rfl, rfl⟩ := hR2
    refine o_rest ?_
    refine o_stop (fun h => nomatch h) ?_
    refine d_L 14 rfl sb_51_4_14 rfl (y_assign rfl) rfl rfl ?_
    refine d_nil0 sb_51_4_15 rfl ?_
    refine c_seq ?_
    refine c_seq ?_
    refine c_region ?_
    refine o_T (y_move rfl) rfl ?_
    refine o_T (y_neq rfl rfl) rfl ?_
    refine o_nil1 37 rfl rfl ?_
    refine c_cond rfl (fun h2 => ?_) (fun h2 => ?_)
    · have hm := cd_t h2 hm
      refine c_seq ?_
      refine c_region ?_
      refine o_T (y_move rfl) rfl ?_
      refine o_L (y_assign rfl) rfl rfl ?_
      refine o_nil0 rfl ?_
      refine c_ret ?_
      obtain ⟨rfl, rfl, rfl, rfl, rfl, rfl⟩ := pr6 hm
      refine fun aX wX heX hsX => ret1 Tryz.results51 heX rfl (s_get (ks k0) (s_get (ks k0) (s_get (ks k0) (s_get (ks k0) (s_get (ks k0) (s_get (ks k0) (s_get (ks k0) (s_get (ks k0) (s_get (ks k0) (s_take (s_take s_nil))))))))))) ?_
      exact ⟨v1, _, v2, _, v3, _, v4, _, rfl, rfl, ho1, ho2, ho3, ho4⟩
    · have hm := cd_f h2 hm
      refine c_skip ?_
      refine c_seq ?_
      refine c_region ?_
      refine o_T (y_move rfl) rfl ?_
      refine o_T (y_nilck rfl) rfl ?_
      refine o_T (y_fa fl_130_1 rfl) rfl ?_
      refine o_ld one_31 rfl (ms m0) (At.got (At.refl.comp RepoR.a_x)) rfl ?_
      obtain ⟨l1, hx4, hm⟩ := bd1 hm
      refine o_callC en_122 rfl (s_take s_nil) (t122 hx4) rfl (fun u3 S3 hR3 => ?_)
      obtain ⟨v5, g5, rfl, rfl, ho5⟩ := hR3
      refine o_rest ?_
      refine o_L (y_assign rfl) rfl rfl ?_
      refine o_nil0 rfl ?_
      refine c_seq ?_
      refine c_region ?_
      refine o_T (y_move rfl) rfl ?_
      refine o_T (y_move rfl) rfl ?_
      obtain ⟨c4, z2, z3, z4, z5, z6, hx5, hm⟩ := bd6 hm
      refine o_callC en_123 rfl (s_get (ks (ks k0)) (s_get (ks (ks k0)) (s_get (ks (ks k0)) (s_get (ks (ks k0)) (s_get (ks (ks k0)) (s_get (ks (ks k0)) (s_get (ks (ks k0)) (s_get (ks (ks k0)) (s_get (ks (ks k0)) (s_take s_nil)))))))))) (t123 ho1 ho2 ho3 ho4 (ho5.rd.mono (fun _ hz => (mg hz))) hx5) rfl (fun u4 S4 hR4 => ?_)
      obtain ⟨v6, g6, v7, g7, v8, g8, v9, g9, rfl, rfl, ho6, ho7, ho8, ho9⟩ := hR4
      refine o_rest ?_
      refine o_L (y_assign rfl) rfl rfl ?_
      refine o_nil0 rfl ?_
      refine c_ret ?_
      obtain ⟨rfl, rfl, rfl, rfl, rfl, rfl⟩ := pr6 hm
      refine fun aX wX heX hsX => ret1 Tryz.results51 heX rfl (s_take (s_take (s_take (s_take (s_take (s_take (s_take (s_take (s_take (s_take (s_skip (s_take s_nil)))))))))))) ?_
      exact ⟨v6, _, v7, _, v8, _, v9, _, rfl, rfl, ho6, ho7, ho8, ho9⟩
  · have hm := cd_f h1 hm
    refine c_region ?_
    refine o_T (y_move rfl) rfl ?_
    refine o_T (y_nilck rfl) rfl ?_
    refine o_T (y_fa fl_130_1 rfl) rfl ?_
    refine o_ld one_31 rfl m0 (At.got (At.refl.comp RepoR.a_x)) rfl ?_
    refine o_T (y_move rfl) rfl ?_
    obtain ⟨c5, z7, hx6, hm⟩ := bd2 hm
    refine o_callC en_121 rfl (s_skip (s_skip (s_skip (s_skip (s_skip (s_skip (s_skip (s_skip (s_skip (s_take s_nil)))))))))) (t121 hx6) rfl (fun u5 S5 hR5 => ?_)
    obtain ⟨rfl, rfl⟩ := hR5
    refine o_rest ?_
    refine o_L (y_assign rfl) rfl rfl ?_
    refine o_nil0 rfl ?_
    refine c_seq ?_
    refine c_seq ?_
    refine c_region ?_
    refine o_T (y_move rfl) rfl ?_
    refine o_T (y_neq rfl rfl) rfl ?_
    refine o_nil1 37 rfl rfl ?_
    refine c_cond rfl (fun h3 => ?_) (fun h3 => ?_)
    · have hm := cd_t h3 hm
      refine c_seq ?_
      refine c_region ?_
      refine o_T (y_move rfl) rfl ?_
      refine o_L (y_assign rfl) rfl rfl ?_
      refine o_nil0 rfl ?_
      refine c_ret ?_
      obtain ⟨rfl, rfl, rfl, rfl, rfl, rfl⟩ := pr6 hm
      refine fun aX wX heX hsX => ret1 Tryz.results51 heX rfl (s_get (ks k0) (s_get (ks k0) (s_get (ks k0) (s_get (ks k0) (s_get (ks k0) (s_get (ks k0) (s_get (ks k0) (s_get (ks k0) (s_get (ks k0) (s_take (s_take s_nil))))))))))) ?_
      exact ⟨v1, _, v2, _, v3, _, v4, _, rfl, rfl, ho1, ho2, ho3, ho4⟩
    · have hm := cd_f h3 hm
      refine c_skip ?_
      refine c_seq ?_
      refine c_region ?_
      refine o_T (y_move rfl) rfl ?_
      refine o_T (y_nilck rfl) rfl ?_
      refine o_T (y_fa fl_130_1 rfl) rfl ?_
      refine o_ld one_31 rfl (ms m0) (At.got (At.refl.comp RepoR.a_x)) rfl ?_
      obtain ⟨l2, hx7, hm⟩ := bd1 hm
      refine o_callC en_122 rfl (s_take s_nil) (t122 hx7) rfl (fun u6 S6 hR6 => ?_)
      obtain ⟨v10, g10, rfl, rfl, ho10⟩ := hR6
      refine o_rest ?_
      refine o_L (y_assign rfl) rfl rfl ?_
      refine o_nil0 rfl ?_
      refine c_seq ?_
      refine c_region ?_
      refine o_T (y_move rfl) rfl ?_
      refine o_T (y_move rfl) rfl ?_
      obtain ⟨c6, z8, z9, z10, z11, z12, hx8, hm⟩ := bd6 hm
      refine o_callC en_123 rfl (s_get (ks (ks k0)) (s_get (ks (ks k0)) (s_get (ks (ks k0)) (s_get (ks (ks k0)) (s_get (ks (ks k0)) (s_get (ks (ks k0)) (s_get (ks (ks k0)) (s_get (ks (ks k0)) (s_get (ks (ks k0)) (s_take s_nil)))))))))) (t123 ho1 ho2 ho3 ho4 (ho10.rd.mono (fun _ hz => (mg hz))) hx8) rfl (fun u7 S7 hR7 => ?_)
      obtain ⟨v11, g11, v12, g12, v13, g13, v14, g14, rfl, rfl, ho11, ho12, ho13, ho14⟩ := hR7
      refine o_rest ?_
      refine o_L (y_assign rfl) rfl rfl ?_
      refine o_nil0 rfl ?_
      refine c_ret ?_
      obtain ⟨rfl, rfl, rfl, rfl, rfl, rfl⟩ := pr6 hm
      refine fun aX wX heX hsX => ret1 Tryz.results51 heX rfl (s_take (s_take (s_take (s_take (s_take (s_take (s_take (s_take (s_take (s_take (s_skip (s_take s_nil)))))))))))) ?_
      exact ⟨v11, _, v12, _, v13, _, v14, _, rfl, rfl, ho11, ho12, ho13, ho14⟩
end Go.Proofs.Qxb6500350aGreat
