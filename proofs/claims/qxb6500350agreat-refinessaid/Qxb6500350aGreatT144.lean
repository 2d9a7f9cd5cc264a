/- MADE BY PROGRAM (tools350/mir.py): mirror and walk. -/
import Derived.Test.Qxb6500350aGreatF2
import Derived.Test.Qxb6500350aGreatT126
import Derived.Test.Qxb6500350aGreatT127
import Derived.Test.Qxb6500350aGreatT128
import Derived.Test.Qxb6500350aGreatT148
import Derived.Test.Qxb6500350aGreatT153
import Derived.Test.Qxb6500350aGreatT131
import Derived.Test.Qxb6500350aGreatT123
import Derived.Test.Qxb6500350aGreatT155
set_option linter.unusedVariables false
set_option linter.unusedSimpArgs false
set_option maxRecDepth 20000
set_option maxHeartbeats 4000000
namespace Go.Proofs.Qxb6500350aGreat
open Go.Eng

def op_144_9 : Array Go.Oper := #[{ dst := some 33, op := Go.Op.move (Go.Operand.tmp 0), type := 33, pos := "cmd.go:131", after := #[], guard := none }, { dst := some 34, op := Go.Op.nilCheck (Go.Operand.tmp 33), type := 0, pos := "cmd.go:131", after := #[{ on := 0, ground := Go.Ground.data }], guard := none }, { dst := some 35, op := Go.Op.fieldAddr 130 (Go.Operand.tmp 34) 0, type := 0, pos := "cmd.go:131", after := #[{ on := 1, ground := Go.Ground.data }], guard := none }, { dst := some 36, op := Go.Op.load 30 (Go.Operand.tmp 35), type := 30, pos := "cmd.go:131", after := #[{ on := 2, ground := Go.Ground.data }], guard := none }, { dst := some 37, op := Go.Op.load 54 (Go.Operand.tmp 4), type := 54, pos := "cmd.go:131", after := #[], guard := none }, { dst := some 38, op := Go.Op.call { callee := Go.Callee.value (Go.Operand.func 153), args := #[Go.Operand.tmp 36, Go.Operand.tmp 37], argTypes := #[30, 54] }, type := 73, pos := "cmd.go:131", after := #[{ on := 3, ground := Go.Ground.data }, { on := 4, ground := Go.Ground.data }], guard := none }, { dst := some 11, op := Go.Op.assign (Go.Operand.tmp 38), type := 73, pos := "cmd.go:131", after := #[{ on := 5, ground := Go.Ground.data }, { on := 5, ground := Go.Ground.chain }, { on := 0, ground := Go.Ground.phase }, { on := 1, ground := Go.Ground.phase }, { on := 2, ground := Go.Ground.phase }, { on := 3, ground := Go.Ground.phase }, { on := 4, ground := Go.Ground.phase }, { on := 5, ground := Go.Ground.phase }], guard := none }]
theorem sb_144_9_0 : softB op_144_9 #[true, true, true, true, true, false, true] (Array.replicate 7 false) 0 = true := by kernel_rfl
theorem sb_144_9_1 : softB op_144_9 #[true, true, true, true, true, false, true] ((Array.replicate 7 false).setIfInBounds 0 true) 1 = true := by kernel_rfl
theorem sb_144_9_2 : softB op_144_9 #[true, true, true, true, true, false, true] (((Array.replicate 7 false).setIfInBounds 0 true).setIfInBounds 1 true) 2 = true := by kernel_rfl
theorem sb_144_9_3 : softB op_144_9 #[true, true, true, true, true, false, true] ((((Array.replicate 7 false).setIfInBounds 0 true).setIfInBounds 1 true).setIfInBounds 2 true) 3 = true := by kernel_rfl
theorem sb_144_9_4 : softB op_144_9 #[true, true, true, true, true, false, true] (((((Array.replicate 7 false).setIfInBounds 0 true).setIfInBounds 1 true).setIfInBounds 2 true).setIfInBounds 3 true) 4 = true := by kernel_rfl
theorem sb_144_9_5 : hardB op_144_9 ((((((Array.replicate 7 false).setIfInBounds 0 true).setIfInBounds 1 true).setIfInBounds 2 true).setIfInBounds 3 true).setIfInBounds 4 true) [5] = true := by kernel_rfl
theorem sb_144_9_6 : softB op_144_9 #[true, true, true, true, true, false, true] (((((((Array.replicate 7 false).setIfInBounds 0 true).setIfInBounds 1 true).setIfInBounds 2 true).setIfInBounds 3 true).setIfInBounds 4 true).setIfInBounds 5 true) 6 = true := by kernel_rfl
theorem sb_144_9_7 : hardB op_144_9 ((((((((Array.replicate 7 false).setIfInBounds 0 true).setIfInBounds 1 true).setIfInBounds 2 true).setIfInBounds 3 true).setIfInBounds 4 true).setIfInBounds 5 true).setIfInBounds 6 true) [] = true := by kernel_rfl
/- (*repo.Repo).goTo -/
def m144 (n : Nat) (r : RepoR) (g : Graph) (t : Trees) (s : Store) (d : Dev) (x : Index) (to_ : Head) (seq : Int) : Option (Int × RepoR × Graph × Trees × Store × Dev × Index) :=
ob1 (m126 n g) fun x1 =>
nm (x1 : Head) fun z1 =>
cond (decide (¬ (z1.merge = 0))) (
some (24, r, g, t, s, d, x)) (
ob1 (m127 n r g z1) fun c1 =>
ob1 (m128 n r g t s d c1) fun l1 =>
ob1 (m148 n r x l1) fun c2 =>
cond (!c2) (
some (22, r, g, t, s, d, x)) (
ob1 (m128 n r g t s d seq) fun l2 =>
ob2 (m153 n g to_) fun c3 z2 =>
cond (decide (¬ (c3 = 0))) (
ob5 (m131 n r z2 t s d x c3) fun c4 z3 z4 z5 z6 =>
some (c4, r, z3, z4, z5, d, z6)) (
ob6 (m123 n r z2 t s d x l2) fun c5 z7 z8 z9 z10 z11 =>
cond (decide (¬ (c5 = 0))) (
some (c5, r, z7, z8, z9, z10, z11)) (
ob2 (m155 n r z11 l2) fun z12 z13 =>
some (0, z12, z7, z8, z9, z10, z13)))))
theorem t144 {n : Nat} {C : List Chunk} {rc1 : Int} {rz1 : RepoR} {rz2 : Graph} {rz3 : Trees} {rz4 : Store} {rz5 : Dev} {rz6 : Index} {b1 : Nat} {r : RepoR} {b2 : Nat} {g : Graph} {b3 : Nat} {t : Trees} {b4 : Nat} {s : Store} {b5 : Nat} {d : Dev} {v1 : Value} {g1 : List Chunk} {v2 : Value} {g2 : List Chunk} {v3 : Value} {g3 : List Chunk} {v4 : Value} {g4 : List Chunk} {b6 : Nat} {x : Index} {q1 : Option Addr} {to_ : Head} {seq : Int} (ho1 : Own rByte v1 d.blk g1) (ho2 : Own rByte v2 d.base g2) (ho3 : Own rInt v3 d.at_ g3) (ho4 : Own rByte v4 d.data g4)  (hm : m144 n r g t s d x to_ seq = some (rc1, rz1, rz2, rz3, rz4, rz5, rz6)) : Trip Tryz.prog 144 #[.pointer (some ⟨b1, 0, none⟩), .agg (Head.enc to_).toArray, .int .i64 seq] ([[(b1, .cells (RepoR.enc (.pointer (some ⟨b2, 0, none⟩)) (.pointer (some ⟨b6, 0, none⟩)) ((.pointer q1)) r).toArray 130 (0, 0))], [(b2, .cells (Graph.enc (.pointer (some ⟨b3, 0, none⟩)) g).toArray 179 (0, 0))], [(b3, .cells (Trees.enc (.pointer (some ⟨b4, 0, none⟩)) t).toArray 169 (0, 0))], [(b4, .cells (Store.enc (.pointer (some ⟨b5, 0, none⟩)) s).toArray 126 (0, 0))], [(b5, .cells (Dev.enc (v1) (v2) (v3) (v4) d).toArray 85 (0, 0))], g1, g2, g3, g4, [(b6, .cells (Index.enc x).toArray 184 (0, 0))]] ++ [C]) (fun u S' => ∃ (ev1 : Value), ∃ (eg1 : List Chunk), ∃ (ev2 : Value), ∃ (eg2 : List Chunk), ∃ (ev3 : Value), ∃ (eg3 : List Chunk), ∃ (ev4 : Value), ∃ (eg4 : List Chunk), .int .i64 rc1 = u ∧ S' = [[(b1, .cells (RepoR.enc (.pointer (some ⟨b2, 0, none⟩)) (.pointer (some ⟨b6, 0, none⟩)) ((.pointer q1)) rz1).toArray 130 (0, 0))], [(b2, .cells (Graph.enc (.pointer (some ⟨b3, 0, none⟩)) rz2).toArray 179 (0, 0))], [(b3, .cells (Trees.enc (.pointer (some ⟨b4, 0, none⟩)) rz3).toArray 169 (0, 0))], [(b4, .cells (Store.enc (.pointer (some ⟨b5, 0, none⟩)) rz4).toArray 126 (0, 0))], [(b5, .cells (Dev.enc (ev1) (ev2) (ev3) (ev4) rz5).toArray 85 (0, 0))], eg1, eg2, eg3, eg4, [(b6, .cells (Index.enc rz6).toArray 184 (0, 0))]] ++ [C] ∧ Own rByte ev1 rz5.blk eg1 ∧ Own rByte ev2 rz5.base eg2 ∧ Own rInt ev3 rz5.at_ eg3 ∧ Own rByte ev4 rz5.data eg4) := by
  refine fn_entry (args := [.pointer (some ⟨b1, 0, none⟩), .agg (Head.enc to_).toArray, .int .i64 seq]) Tryz.func144 rfl Tryz.ntmps144 rfl (fun w0 => ?_)
  refine c_seq ?_
  refine c_region ?_
  refine o_box rfl rfl rfl rfl (fun b7 => ?_)
  refine o_L (y_assign rfl) rfl rfl ?_
  refine o_nil0 rfl ?_
  refine c_seq ?_
  refine c_region ?_
  refine o_T (y_move rfl) rfl ?_
  refine o_T (y_nilck rfl) rfl ?_
  refine o_T (y_fa fl_130_0 rfl) rfl ?_
  refine o_ld one_30 rfl (ms m0) (At.got (At.refl.comp RepoR.a_g)) rfl ?_
  obtain ⟨x1, hx1, hm⟩ := bd1 hm
  refine o_callC en_126 rfl (s_skip (s_skip (s_take s_nil))) (t126 hx1) rfl (fun u1 S1 hR1 => ?_)
  obtain ⟨rfl, rfl⟩ := hR1
  refine o_rest ?_
  refine o_alloc ze_54 rfl rfl (fun b8 => ?_)
  obtain ⟨z1, hn1, hm⟩ := nm_s hm
  refine o_stNA ag_54 rfl rfl (Head.plain _) (Head.len _) (Upd.refl ((Head.len _).trans (Head.len _).symm)) r0 (show (Head.enc z1) = _ from by subst hn1; rfl) ?_
  refine o_nil0 rfl ?_
  refine c_seq ?_
  refine c_seq ?_
  refine c_region ?_
  refine o_T (y_fa fl_54_2 rfl) rfl ?_
  refine o_ld one_3 rfl m0 (At.got (At.refl.comp Head.a_merge)) rfl ?_
  refine o_T (y_neq rfl rfl) rfl ?_
  refine o_nil1 19 rfl rfl ?_
  refine c_cond rfl (fun h1 => ?_) (fun h1 => ?_)
  · have hm := cd_t h1 hm
    refine c_seq ?_
    refine c_region ?_
    refine o_L (y_assign rfl) rfl rfl ?_
    refine o_nil0 rfl ?_
    refine c_ret ?_
    obtain ⟨rfl, rfl, rfl, rfl, rfl, rfl, rfl⟩ := pr7 hm
    refine fun aX wX heX hsX => ret1 Tryz.results144 heX rfl (s_skip (s_get (ks (ks k0)) (s_take (s_skip (s_take (s_take (s_take (s_take (s_take (s_take (s_take (s_take (s_take s_nil))))))))))))) ?_
    exact ⟨v1, _, v2, _, v3, _, v4, _, rfl, rfl, ho1, ho2, ho3, ho4⟩
  · have hm := cd_f h1 hm
    refine c_skip ?_
    refine c_seq ?_
    refine c_region ?_
    refine o_T (y_move rfl) rfl ?_
    refine o_lda ag_54 rfl m0 (At.exs At.refl (Head.len _)) (At.fits At.refl (Head.len _)) rfl ?_
    obtain ⟨c1, hx2, hm⟩ := bd1 hm
    refine o_callC en_127 rfl (s_skip (s_get (ks (ks k0)) (s_take s_nil))) (t127 hx2) rfl (fun u2 S2 hR2 => ?_)
    obtain ⟨rfl, rfl⟩ := hR2
    refine o_rest ?_
    refine o_L (y_assign rfl) rfl rfl ?_
    refine o_nil0 rfl ?_
    refine c_seq ?_
    refine c_region ?_
    refine o_T (y_move rfl) rfl ?_
    refine o_T (y_move rfl) rfl ?_
    obtain ⟨l1, hx3, hm⟩ := bd1 hm
    refine o_callC en_128 rfl (s_take (s_take (s_skip (s_skip (s_take (s_take (s_take (s_take (s_take (s_take (s_take s_nil))))))))))) (t128 ho1 ho2 ho3 ho4 hx3) rfl (fun u3 S3 hR3 => ?_)
    obtain ⟨v5, g5, rfl, rfl, ho5⟩ := hR3
    refine o_rest ?_
    refine o_L (y_assign rfl) rfl rfl ?_
    refine o_nil0 rfl ?_
    refine c_seq ?_
    refine c_seq ?_
    refine c_region ?_
    refine o_T (y_move rfl) rfl ?_
    refine o_T (y_move rfl) rfl ?_
    obtain ⟨c2, hx4, hm⟩ := bd1 hm
    refine o_callC en_148 rfl (s_take (s_skip (s_skip (s_skip (s_skip (s_skip (s_skip (s_skip (s_skip (s_skip (s_skip (s_skip (s_take s_nil))))))))))))) (t148 (ho5.rd.mono (fun _ hz => (ms (ms (ms (ms (ms (ms (ms (ms (mg hz))))))))))) hx4) rfl (fun u4 S4 hR4 => ?_)
    obtain ⟨rfl, rfl⟩ := hR4
    refine o_rest ?_
    refine o_T (y_not rfl) rfl ?_
    refine o_nil1 29 rfl rfl ?_
    refine c_cond rfl (fun h2 => ?_) (fun h2 => ?_)
    · have hm := cd_t h2 hm
      refine c_seq ?_
      refine c_region ?_
      refine o_L (y_assign rfl) rfl rfl ?_
      refine o_nil0 rfl ?_
      refine c_ret ?_
      obtain ⟨rfl, rfl, rfl, rfl, rfl, rfl, rfl⟩ := pr7 hm
      refine fun aX wX heX hsX => ret1 Tryz.results144 heX rfl (s_take (s_get (ks k0) (s_get (ks k0) (s_get (ks k0) (s_get (ks k0) (s_get (ks k0) (s_get (ks k0) (s_get (ks k0) (s_get (ks k0) (s_take (s_skip (s_skip (s_skip (s_take s_nil)))))))))))))) ?_
      exact ⟨v1, _, v2, _, v3, _, v4, _, rfl, rfl, ho1, ho2, ho3, ho4⟩
    · have hm := cd_f h2 hm
      refine c_skip ?_
      refine c_seq ?_
      refine c_region ?_
      refine o_T (y_move rfl) rfl ?_
      refine o_T (y_move rfl) rfl ?_
      obtain ⟨l2, hx5, hm⟩ := bd1 hm
      refine o_callC en_128 rfl (s_take (s_skip (s_take (s_take (s_take (s_take (s_take (s_take (s_take (s_take s_nil)))))))))) (t128 ho1 ho2 ho3 ho4 hx5) rfl (fun u5 S5 hR5 => ?_)
      obtain ⟨v6, g6, rfl, rfl, ho6⟩ := hR5
      refine o_rest ?_
      refine o_L (y_assign rfl) rfl rfl ?_
      refine o_nil0 rfl ?_
      refine c_seq ?_
      refine c_draw #[true, true, true, true, true, false, true] rfl (n := 7) rfl ?_
      refine d_T 0 rfl sb_144_9_0 rfl (y_move rfl) rfl ?_
      refine d_T 1 rfl sb_144_9_1 rfl (y_nilck rfl) rfl ?_
      refine d_T 2 rfl sb_144_9_2 rfl (y_fa fl_130_0 rfl) rfl ?_
      refine d_ld 3 rfl sb_144_9_3 one_30 rfl (fun x hx => hx) m0 (At.got (At.refl.comp RepoR.a_g)) rfl ?_
      refine d_lda 4 rfl sb_144_9_4 ag_54 rfl (fun x hx => hx) (ms (ms (ms (ms (ms (ms (ms (ms (ms (ms (ms (ms (ms m0))))))))))))) (At.exs At.refl (Head.len _)) (At.fits At.refl (Head.len _)) rfl ?_
      refine d_hard 5 rfl sb_144_9_5 ?_
      obtain ⟨c3, z2, hx6, hm⟩ := bd2 hm
      refine o_callC en_153 rfl (s_skip (s_take s_nil)) (t153 hx6) rfl (fun u6 S6 hR6 => ?_)
      obtain ⟨rfl, rfl⟩ := hR6
      refine o_rest ?_
      refine o_stop (fun h => nomatch h) ?_
      refine d_L 6 rfl sb_144_9_6 rfl (y_assign rfl) rfl rfl ?_
      refine d_nil0 sb_144_9_7 rfl ?_
      refine c_seq ?_
      refine c_seq ?_
      refine c_region ?_
      refine o_T (y_move rfl) rfl ?_
      refine o_T (y_neq rfl rfl) rfl ?_
      refine o_nil1 40 rfl rfl ?_
      refine c_cond rfl (fun h3 => ?_) (fun h3 => ?_)
      · have hm := cd_t h3 hm
        refine c_seq ?_
        refine c_region ?_
        refine o_T (y_move rfl) rfl ?_
        refine o_T (y_move rfl) rfl ?_
        obtain ⟨c4, z3, z4, z5, z6, hx7, hm⟩ := bd5 hm
        refine o_callC en_131 rfl (s_get (ks k0) (s_take (s_take (s_take (s_take (s_take (s_take (s_take (s_take (s_skip (s_take s_nil))))))))))) (t131 ho1 ho2 ho3 ho4 hx7) rfl (fun u7 S7 hR7 => ?_)
        obtain ⟨rfl, rfl⟩ := hR7
        refine o_rest ?_
        refine o_L (y_assign rfl) rfl rfl ?_
        refine o_nil0 rfl ?_
        refine c_ret ?_
        obtain ⟨rfl, rfl, rfl, rfl, rfl, rfl, rfl⟩ := pr7 hm
        refine fun aX wX heX hsX => ret1 Tryz.results144 heX rfl (s_take (s_take (s_take (s_take (s_take (s_take (s_take (s_take (s_take (s_take (s_skip (s_skip (s_skip (s_skip (s_take s_nil))))))))))))))) ?_
        exact ⟨v1, _, v2, _, v3, _, v4, _, rfl, rfl, ho1, ho2, ho3, ho4⟩
      · have hm := cd_f h3 hm
        refine c_skip ?_
        refine c_seq ?_
        refine c_region ?_
        refine o_T (y_move rfl) rfl ?_
        refine o_T (y_move rfl) rfl ?_
        obtain ⟨c5, z7, z8, z9, z10, z11, hx8, hm⟩ := bd6 hm
        refine o_callC en_123 rfl (s_get (ks k0) (s_take (s_take (s_take (s_take (s_take (s_take (s_take (s_take (s_skip (s_take s_nil))))))))))) (t123 ho1 ho2 ho3 ho4 (ho6.rd.mono (fun _ hz => (mg hz))) hx8) rfl (fun u8 S8 hR8 => ?_)
        obtain ⟨v7, g7, v8, g8, v9, g9, v10, g10, rfl, rfl, ho7, ho8, ho9, ho10⟩ := hR8
        refine o_rest ?_
        refine o_L (y_assign rfl) rfl rfl ?_
        refine o_nil0 rfl ?_
        refine c_seq ?_
        refine c_seq ?_
        refine c_region ?_
        refine o_T (y_move rfl) rfl ?_
        refine o_T (y_neq rfl rfl) rfl ?_
        refine o_nil1 48 rfl rfl ?_
        refine c_cond rfl (fun h4 => ?_) (fun h4 => ?_)
        · have hm := cd_t h4 hm
          refine c_seq ?_
          refine c_region ?_
          refine o_T (y_move rfl) rfl ?_
          refine o_L (y_assign rfl) rfl rfl ?_
          refine o_nil0 rfl ?_
          refine c_ret ?_
          obtain ⟨rfl, rfl, rfl, rfl, rfl, rfl, rfl⟩ := pr7 hm
          refine fun aX wX heX hsX => ret1 Tryz.results144 heX rfl (s_take (s_take (s_take (s_take (s_take (s_take (s_take (s_take (s_take (s_take (s_skip (s_skip (s_skip (s_skip (s_take s_nil))))))))))))))) ?_
          exact ⟨v7, _, v8, _, v9, _, v10, _, rfl, rfl, ho7, ho8, ho9, ho10⟩
        · have hm := cd_f h4 hm
          refine c_skip ?_
          refine c_seq ?_
          refine c_region ?_
          refine o_T (y_move rfl) rfl ?_
          refine o_T (y_move rfl) rfl ?_
          obtain ⟨z12, z13, hx9, hm⟩ := bd2 hm
          refine o_callC en_155 rfl (s_take (s_skip (s_skip (s_skip (s_skip (s_skip (s_skip (s_skip (s_skip (s_take s_nil)))))))))) (t155 (ho6.rd.mono (fun _ hz => (ms (ms (ms (ms (ms (ms (ms (ms (mg hz))))))))))) hx9) rfl (fun u9 S9 hR9 => ?_)
          obtain ⟨rfl, rfl⟩ := hR9
          refine o_rest ?_
          refine o_nil0 rfl ?_
          refine c_seq ?_
          refine c_region ?_
          refine o_L (y_assign rfl) rfl rfl ?_
          refine o_nil0 rfl ?_
          refine c_ret ?_
          obtain ⟨rfl, rfl, rfl, rfl, rfl, rfl, rfl⟩ := pr7 hm
          refine fun aX wX heX hsX => ret1 Tryz.results144 heX rfl (s_take (s_get (ks k0) (s_get (ks k0) (s_get (ks k0) (s_get (ks k0) (s_get (ks k0) (s_get (ks k0) (s_get (ks k0) (s_get (ks k0) (s_take (s_skip (s_skip (s_skip (s_skip (s_take s_nil))))))))))))))) ?_
          exact ⟨v7, _, v8, _, v9, _, v10, _, rfl, rfl, ho7, ho8, ho9, ho10⟩
end Go.Proofs.Qxb6500350aGreat
