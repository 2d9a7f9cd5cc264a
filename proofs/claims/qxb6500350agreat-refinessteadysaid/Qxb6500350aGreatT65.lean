/- MADE BY PROGRAM (tools350/mir.py): mirror and walk. -/
import Derived.Test.Qxb6500350aGreatF2
import Derived.Test.Qxb6500350aGreatT136
import Derived.Test.Qxb6500350aGreatT137
import Derived.Test.Qxb6500350aGreatT138
import Derived.Test.Qxb6500350aGreatT126
import Derived.Test.Qxb6500350aGreatT127
import Derived.Test.Qxb6500350aGreatT128
import Derived.Test.Qxb6500350aGreatT148
import Derived.Test.Qxb6500350aGreatT149
import Derived.Test.Qxb6500350aGreatT150
import Derived.Test.Qxb6500350aGreatT151
import Derived.Test.Qxb6500350aGreatT152
import Derived.Test.Qxb6500350aGreatT153
import Derived.Test.Qxb6500350aGreatT154
import Derived.Test.Qxb6500350aGreatT131
import Derived.Test.Qxb6500350aGreatT123
import Derived.Test.Qxb6500350aGreatT155
set_option linter.unusedVariables false
set_option linter.unusedSimpArgs false
set_option maxRecDepth 20000
set_option maxHeartbeats 4000000
namespace Go.Proofs.Qxb6500350aGreat
open Go.Eng

def op_65_28 : Array Go.Oper := #[{ dst := some 97, op := Go.Op.move (Go.Operand.tmp 0), type := 33, pos := "merge.go:44", after := #[], guard := none }, { dst := some 98, op := Go.Op.nilCheck (Go.Operand.tmp 97), type := 0, pos := "merge.go:44", after := #[{ on := 0, ground := Go.Ground.data }], guard := none }, { dst := some 99, op := Go.Op.fieldAddr 130 (Go.Operand.tmp 98) 0, type := 0, pos := "merge.go:44", after := #[{ on := 1, ground := Go.Ground.data }], guard := none }, { dst := some 100, op := Go.Op.load 30 (Go.Operand.tmp 99), type := 30, pos := "merge.go:44", after := #[{ on := 2, ground := Go.Ground.data }], guard := none }, { dst := some 101, op := Go.Op.fieldAddr 54 (Go.Operand.tmp 9) 0, type := 0, pos := "merge.go:44", after := #[], guard := none }, { dst := some 102, op := Go.Op.load 9 (Go.Operand.tmp 101), type := 9, pos := "merge.go:44", after := #[{ on := 4, ground := Go.Ground.data }], guard := none }, { dst := some 103, op := Go.Op.fieldAddr 54 (Go.Operand.tmp 9) 1, type := 0, pos := "merge.go:44", after := #[], guard := none }, { dst := some 104, op := Go.Op.load 3 (Go.Operand.tmp 103), type := 3, pos := "merge.go:44", after := #[{ on := 6, ground := Go.Ground.data }], guard := none }, { dst := some 105, op := Go.Op.move (Go.Operand.tmp 7), type := 3, pos := "merge.go:44", after := #[], guard := none }, { dst := some 106, op := Go.Op.build 54 #[(0, Go.Operand.tmp 102), (1, Go.Operand.tmp 104), (2, Go.Operand.tmp 105)], type := 54, pos := "merge.go:44", after := #[{ on := 5, ground := Go.Ground.data }, { on := 7, ground := Go.Ground.data }, { on := 8, ground := Go.Ground.data }], guard := none }, { dst := some 107, op := Go.Op.call { callee := Go.Callee.value (Go.Operand.func 153), args := #[Go.Operand.tmp 100, Go.Operand.tmp 106], argTypes := #[30, 54] }, type := 73, pos := "merge.go:44", after := #[{ on := 3, ground := Go.Ground.data }, { on := 9, ground := Go.Ground.data }], guard := none }, { dst := some 18, op := Go.Op.assign (Go.Operand.tmp 107), type := 73, pos := "merge.go:44", after := #[{ on := 10, ground := Go.Ground.data }, { on := 10, ground := Go.Ground.chain }, { on := 0, ground := Go.Ground.phase }, { on := 1, ground := Go.Ground.phase }, { on := 2, ground := Go.Ground.phase }, { on := 3, ground := Go.Ground.phase }, { on := 4, ground := Go.Ground.phase }, { on := 5, ground := Go.Ground.phase }, { on := 6, ground := Go.Ground.phase }, { on := 7, ground := Go.Ground.phase }, { on := 8, ground := Go.Ground.phase }, { on := 9, ground := Go.Ground.phase }, { on := 10, ground := Go.Ground.phase }], guard := none }]
theorem sb_65_28_0 : softB op_65_28 #[true, true, true, true, true, true, true, true, true, true, false, true] (Array.replicate 12 false) 0 = true := by kernel_rfl
theorem sb_65_28_1 : softB op_65_28 #[true, true, true, true, true, true, true, true, true, true, false, true] ((Array.replicate 12 false).setIfInBounds 0 true) 1 = true := by kernel_rfl
theorem sb_65_28_2 : softB op_65_28 #[true, true, true, true, true, true, true, true, true, true, false, true] (((Array.replicate 12 false).setIfInBounds 0 true).setIfInBounds 1 true) 2 = true := by kernel_rfl
theorem sb_65_28_3 : softB op_65_28 #[true, true, true, true, true, true, true, true, true, true, false, true] ((((Array.replicate 12 false).setIfInBounds 0 true).setIfInBounds 1 true).setIfInBounds 2 true) 3 = true := by kernel_rfl
theorem sb_65_28_4 : softB op_65_28 #[true, true, true, true, true, true, true, true, true, true, false, true] (((((Array.replicate 12 false).setIfInBounds 0 true).setIfInBounds 1 true).setIfInBounds 2 true).setIfInBounds 3 true) 4 = true := by kernel_rfl
theorem sb_65_28_5 : softB op_65_28 #[true, true, true, true, true, true, true, true, true, true, false, true] ((((((Array.replicate 12 false).setIfInBounds 0 true).setIfInBounds 1 true).setIfInBounds 2 true).setIfInBounds 3 true).setIfInBounds 4 true) 5 = true := by kernel_rfl
theorem sb_65_28_6 : softB op_65_28 #[true, true, true, true, true, true, true, true, true, true, false, true] (((((((Array.replicate 12 false).setIfInBounds 0 true).setIfInBounds 1 true).setIfInBounds 2 true).setIfInBounds 3 true).setIfInBounds 4 true).setIfInBounds 5 true) 6 = true := by kernel_rfl
theorem sb_65_28_7 : softB op_65_28 #[true, true, true, true, true, true, true, true, true, true, false, true] ((((((((Array.replicate 12 false).setIfInBounds 0 true).setIfInBounds 1 true).setIfInBounds 2 true).setIfInBounds 3 true).setIfInBounds 4 true).setIfInBounds 5 true).setIfInBounds 6 true) 7 = true := by kernel_rfl
theorem sb_65_28_8 : softB op_65_28 #[true, true, true, true, true, true, true, true, true, true, false, true] (((((((((Array.replicate 12 false).setIfInBounds 0 true).setIfInBounds 1 true).setIfInBounds 2 true).setIfInBounds 3 true).setIfInBounds 4 true).setIfInBounds 5 true).setIfInBounds 6 true).setIfInBounds 7 true) 8 = true := by kernel_rfl
theorem sb_65_28_9 : softB op_65_28 #[true, true, true, true, true, true, true, true, true, true, false, true] ((((((((((Array.replicate 12 false).setIfInBounds 0 true).setIfInBounds 1 true).setIfInBounds 2 true).setIfInBounds 3 true).setIfInBounds 4 true).setIfInBounds 5 true).setIfInBounds 6 true).setIfInBounds 7 true).setIfInBounds 8 true) 9 = true := by kernel_rfl
theorem sb_65_28_10 : hardB op_65_28 (((((((((((Array.replicate 12 false).setIfInBounds 0 true).setIfInBounds 1 true).setIfInBounds 2 true).setIfInBounds 3 true).setIfInBounds 4 true).setIfInBounds 5 true).setIfInBounds 6 true).setIfInBounds 7 true).setIfInBounds 8 true).setIfInBounds 9 true) [10] = true := by kernel_rfl
theorem sb_65_28_11 : softB op_65_28 #[true, true, true, true, true, true, true, true, true, true, false, true] ((((((((((((Array.replicate 12 false).setIfInBounds 0 true).setIfInBounds 1 true).setIfInBounds 2 true).setIfInBounds 3 true).setIfInBounds 4 true).setIfInBounds 5 true).setIfInBounds 6 true).setIfInBounds 7 true).setIfInBounds 8 true).setIfInBounds 9 true).setIfInBounds 10 true) 11 = true := by kernel_rfl
theorem sb_65_28_12 : hardB op_65_28 (((((((((((((Array.replicate 12 false).setIfInBounds 0 true).setIfInBounds 1 true).setIfInBounds 2 true).setIfInBounds 3 true).setIfInBounds 4 true).setIfInBounds 5 true).setIfInBounds 6 true).setIfInBounds 7 true).setIfInBounds 8 true).setIfInBounds 9 true).setIfInBounds 10 true).setIfInBounds 11 true) [] = true := by kernel_rfl
/- (*repo.Repo).Merge -/
def m65 (n : Nat) (r : RepoR) (e : Engine) (g : Graph) (t : Trees) (s : Store) (d : Dev) (x : Index) (name : Str) : Option (Int × Int × RepoR × Engine × Graph × Trees × Store × Dev × Index) :=
ob1 (m136 n name) fun c1 =>
cond (!c1) (
some (0, 14, r, e, g, t, s, d, x)) (
ob1 (m137 n g) fun l1 =>
ob2 (m138 n l1 name) fun c2 c3 =>
cond (!c3) (
some (0, 16, r, e, g, t, s, d, x)) (
ob1 (m126 n g) fun x1 =>
nm (x1 : Head) fun z1 =>
ob1 (m127 n r g z1) fun c4 =>
cond (decide (c4 = 0)) (
some (0, 17, r, e, g, t, s, d, x)) (
cond (decide (¬ (z1.merge = 0))) (
some (0, 24, r, e, g, t, s, d, x)) (
ob1 (m128 n r g t s d c4) fun l2 =>
ob1 (m148 n r x l2) fun c5 =>
cond (!c5) (
some (0, 22, r, e, g, t, s, d, x)) (
ob2 (m149 n g c4 c2) fun c6 c7 =>
cond (decide (c6 = c2)) (
some (0, 23, r, e, g, t, s, d, x)) (
ob1 (m128 n r g t s d c2) fun l3 =>
cond (decide (c6 = c4)) (
ob7 (m150 n r g t s d x z1 c2 l3) fun c8 z2 z3 z4 z5 z6 z7 =>
some (0, c8, z2, e, z3, z4, z5, z6, z7)) (
ob1 (m128 n r g t s d c6) fun l4 =>
ob3 (m151 n r e l4 l2 l3) fun l5 c9 z8 =>
ob1 (m152 n l5) fun c10 =>
cond (decide (¬ (c10 = 0))) (
some (0, c10, r, z8, g, t, s, d, x)) (
ob5 (cond (decide ((0 : Int) < c9)) (
ob2 (m153 n g ({ name := z1.name, seq := z1.seq, merge := c2 } : Head)) fun c12 z13 =>
some (c12, z13, t, s, d)) (
ob5 (m154 n r g t s d z1 l5 c4 c2) fun c13 z14 z15 z16 z17 =>
some (c13, z14, z15, z16, z17))) fun c11 z9 z10 z11 z12 =>
cond (decide (¬ (c11 = 0))) (
ob5 (m131 n r z9 z10 z11 z12 x c11) fun c14 z18 z19 z20 z21 =>
some (0, c14, r, z8, z18, z19, z20, z12, z21)) (
ob6 (m123 n r z9 z10 z11 z12 x l5) fun c15 z22 z23 z24 z25 z26 =>
cond (decide (¬ (c15 = 0))) (
some (0, c15, r, z8, z22, z23, z24, z25, z26)) (
ob2 (m155 n r z26 l5) fun z27 z28 =>
some (c9, 0, z27, z8, z22, z23, z24, z25, z28)))))))))))
theorem t65 {n : Nat} {C : List Chunk} {rc1 : Int} {rc2 : Int} {rz1 : RepoR} {rz2 : Engine} {rz3 : Graph} {rz4 : Trees} {rz5 : Store} {rz6 : Dev} {rz7 : Index} {b1 : Nat} {r : RepoR} {b2 : Nat} {g : Graph} {b3 : Nat} {t : Trees} {b4 : Nat} {s : Store} {b5 : Nat} {d : Dev} {v1 : Value} {g1 : List Chunk} {v2 : Value} {g2 : List Chunk} {v3 : Value} {g3 : List Chunk} {v4 : Value} {g4 : List Chunk} {b6 : Nat} {x : Index} {b7 : Nat} {e : Engine} {v5 : Value} {g5 : List Chunk} {v6 : Value} {g6 : List Chunk} {v7 : Value} {g7 : List Chunk} {name : Str} (ho5 : Own rStr v5 e.line_ g5) (ho6 : Own rInt v6 e.sum g6) (ho7 : Own rInt v7 e.nxt g7) (ho1 : Own rByte v1 d.blk g1) (ho2 : Own rByte v2 d.base g2) (ho3 : Own rInt v3 d.at_ g3) (ho4 : Own rByte v4 d.data g4)  (hm : m65 n r e g t s d x name = some (rc1, rc2, rz1, rz2, rz3, rz4, rz5, rz6, rz7)) : Trip Tryz.prog 65 #[.pointer (some ⟨b1, 0, none⟩), .string ⟨(name : Str).toArray⟩] ([[(b1, .cells (RepoR.enc (.pointer (some ⟨b2, 0, none⟩)) (.pointer (some ⟨b6, 0, none⟩)) (.pointer (some ⟨b7, 0, none⟩)) r).toArray 130 (0, 0))], [(b7, .cells (Engine.enc (v5) (v6) (v7) e).toArray 187 (0, 0))], g5, g6, g7, [(b2, .cells (Graph.enc (.pointer (some ⟨b3, 0, none⟩)) g).toArray 179 (0, 0))], [(b3, .cells (Trees.enc (.pointer (some ⟨b4, 0, none⟩)) t).toArray 169 (0, 0))], [(b4, .cells (Store.enc (.pointer (some ⟨b5, 0, none⟩)) s).toArray 126 (0, 0))], [(b5, .cells (Dev.enc (v1) (v2) (v3) (v4) d).toArray 85 (0, 0))], g1, g2, g3, g4, [(b6, .cells (Index.enc x).toArray 184 (0, 0))]] ++ [C]) (fun u S' => ∃ (ev1 : Value), ∃ (eg1 : List Chunk), ∃ (ev2 : Value), ∃ (eg2 : List Chunk), ∃ (ev3 : Value), ∃ (eg3 : List Chunk), ∃ (ev4 : Value), ∃ (eg4 : List Chunk), ∃ (ev5 : Value), ∃ (eg5 : List Chunk), ∃ (ev6 : Value), ∃ (eg6 : List Chunk), ∃ (ev7 : Value), ∃ (eg7 : List Chunk), .tuple #[.int .i64 rc1, .int .i64 rc2] = u ∧ S' = [[(b1, .cells (RepoR.enc (.pointer (some ⟨b2, 0, none⟩)) (.pointer (some ⟨b6, 0, none⟩)) (.pointer (some ⟨b7, 0, none⟩)) rz1).toArray 130 (0, 0))], [(b7, .cells (Engine.enc (ev1) (ev2) (ev3) rz2).toArray 187 (0, 0))], eg1, eg2, eg3, [(b2, .cells (Graph.enc (.pointer (some ⟨b3, 0, none⟩)) rz3).toArray 179 (0, 0))], [(b3, .cells (Trees.enc (.pointer (some ⟨b4, 0, none⟩)) rz4).toArray 169 (0, 0))], [(b4, .cells (Store.enc (.pointer (some ⟨b5, 0, none⟩)) rz5).toArray 126 (0, 0))], [(b5, .cells (Dev.enc (ev4) (ev5) (ev6) (ev7) rz6).toArray 85 (0, 0))], eg4, eg5, eg6, eg7, [(b6, .cells (Index.enc rz7).toArray 184 (0, 0))]] ++ [C] ∧ Own rStr ev1 rz2.line_ eg1 ∧ Own rInt ev2 rz2.sum eg2 ∧ Own rInt ev3 rz2.nxt eg3 ∧ Own rByte ev4 rz6.blk eg4 ∧ Own rByte ev5 rz6.base eg5 ∧ Own rInt ev6 rz6.at_ eg6 ∧ Own rByte ev7 rz6.data eg7) := by
  refine fn_entry (args := [.pointer (some ⟨b1, 0, none⟩), .string ⟨(name : Str).toArray⟩]) Tryz.func65 rfl Tryz.ntmps65 rfl (fun w0 => ?_)
  refine c_seq ?_
  refine c_region ?_
  refine o_L (y_assign rfl) rfl rfl ?_
  refine o_L (y_assign rfl) rfl rfl ?_
  refine o_nil0 rfl ?_
  refine c_seq ?_
  refine c_seq ?_
  refine c_region ?_
  refine o_T (y_move rfl) rfl ?_
  obtain ⟨c1, hx1, hm⟩ := bd1 hm
  refine o_callC en_136 rfl s_nil (t136 hx1) rfl (fun u1 S1 hR1 => ?_)
  obtain ⟨rfl, rfl⟩ := hR1
  refine o_rest ?_
  refine o_T (y_not rfl) rfl ?_
  refine o_nil1 21 rfl rfl ?_
  refine c_cond rfl (fun h1 => ?_) (fun h1 => ?_)
  · have hm := cd_t h1 hm
    refine c_seq ?_
    refine c_region ?_
    refine o_L (y_assign rfl) rfl rfl ?_
    refine o_L (y_assign rfl) rfl rfl ?_
    refine o_nil0 rfl ?_
    refine c_ret ?_
    obtain ⟨rfl, rfl, rfl, rfl, rfl, rfl, rfl, rfl, rfl⟩ := pr9 hm
    refine fun aX wX heX hsX => ret2 Tryz.results65 heX rfl rfl (s_take (s_take (s_take (s_take (s_take (s_take (s_take (s_take (s_take (s_take (s_take (s_take (s_take (s_take (s_take s_nil))))))))))))))) ?_
    exact ⟨v5, _, v6, _, v7, _, v1, _, v2, _, v3, _, v4, _, rfl, rfl, ho5, ho6, ho7, ho1, ho2, ho3, ho4⟩
  · have hm := cd_f h1 hm
    refine c_skip ?_
    refine c_seq ?_
    refine c_region ?_
    refine o_T (y_move rfl) rfl ?_
    refine o_T (y_nilck rfl) rfl ?_
    refine o_T (y_fa fl_130_0 rfl) rfl ?_
    refine o_ld one_30 rfl m0 (At.got (At.refl.comp RepoR.a_g)) rfl ?_
    obtain ⟨l1, hx2, hm⟩ := bd1 hm
    refine o_callC en_137 rfl (s_skip (s_skip (s_skip (s_skip (s_skip (s_take s_nil)))))) (t137 hx2) rfl (fun u2 S2 hR2 => ?_)
    obtain ⟨v8, g8, rfl, rfl, ho8⟩ := hR2
    refine o_rest ?_
    refine o_L (y_assign rfl) rfl rfl ?_
    refine o_nil0 rfl ?_
    refine c_seq ?_
    refine c_region ?_
    refine o_T (y_move rfl) rfl ?_
    refine o_T (y_move rfl) rfl ?_
    obtain ⟨c2, c3, hx3, hm⟩ := bd2 hm
    refine o_callC en_138 rfl s_nil (t138 (ho8.rd.mono (fun _ hz => (ms (mg hz)))) hx3) rfl (fun u3 S3 hR3 => ?_)
    obtain ⟨rfl, rfl⟩ := hR3
    refine o_rest ?_
    refine o_T (y_move rfl) rfl ?_
    refine o_T (y_extract rfl rfl) rfl ?_
    refine o_T (y_extract rfl rfl) rfl ?_
    refine o_L (y_assign rfl) rfl rfl ?_
    refine o_L (y_assign rfl) rfl rfl ?_
    refine o_nil0 rfl ?_
    refine c_seq ?_
    refine c_seq ?_
    refine c_region ?_
    refine o_T (y_move rfl) rfl ?_
    refine o_T (y_not rfl) rfl ?_
    refine o_nil1 34 rfl rfl ?_
    refine c_cond rfl (fun h2 => ?_) (fun h2 => ?_)
    · have hm := cd_t h2 hm
      refine c_seq ?_
      refine c_region ?_
      refine o_L (y_assign rfl) rfl rfl ?_
      refine o_L (y_assign rfl) rfl rfl ?_
      refine o_nil0 rfl ?_
      refine c_ret ?_
      obtain ⟨rfl, rfl, rfl, rfl, rfl, rfl, rfl, rfl, rfl⟩ := pr9 hm
      refine fun aX wX heX hsX => ret2 Tryz.results65 heX rfl rfl (s_get (ks (ks k0)) (s_get (ks (ks k0)) (s_get (ks (ks k0)) (s_get (ks (ks k0)) (s_get (ks (ks k0)) (s_take (s_skip (s_take (s_take (s_take (s_take (s_take (s_take (s_take (s_take (s_take s_nil)))))))))))))))) ?_
      exact ⟨v5, _, v6, _, v7, _, v1, _, v2, _, v3, _, v4, _, rfl, rfl, ho5, ho6, ho7, ho1, ho2, ho3, ho4⟩
    · have hm := cd_f h2 hm
      refine c_skip ?_
      refine c_seq ?_
      refine c_region ?_
      refine o_T (y_move rfl) rfl ?_
      refine o_T (y_nilck rfl) rfl ?_
      refine o_T (y_fa fl_130_0 rfl) rfl ?_
      refine o_ld one_30 rfl (ms (ms m0)) (At.got (At.refl.comp RepoR.a_g)) rfl ?_
      obtain ⟨x1, hx4, hm⟩ := bd1 hm
      refine o_callC en_126 rfl (s_take s_nil) (t126 hx4) rfl (fun u4 S4 hR4 => ?_)
      obtain ⟨rfl, rfl⟩ := hR4
      refine o_rest ?_
      refine o_alloc ze_54 rfl rfl (fun b8 => ?_)
      obtain ⟨z1, hn1, hm⟩ := nm_s hm
      refine o_stNA ag_54 rfl rfl (Head.plain _) (Head.len _) (Upd.refl ((Head.len _).trans (Head.len _).symm)) r0 (show (Head.enc z1) = _ from by subst hn1; rfl) ?_
      refine o_nil0 rfl ?_
      refine c_seq ?_
      refine c_region ?_
      refine o_T (y_move rfl) rfl ?_
      refine o_lda ag_54 rfl m0 (At.exs At.refl (Head.len _)) (At.fits At.refl (Head.len _)) rfl ?_
      obtain ⟨c4, hx5, hm⟩ := bd1 hm
      refine o_callC en_127 rfl (s_skip (s_get (ks (ks k0)) (s_take s_nil))) (t127 hx5) rfl (fun u5 S5 hR5 => ?_)
      obtain ⟨rfl, rfl⟩ := hR5
      refine o_rest ?_
      refine o_L (y_assign rfl) rfl rfl ?_
      refine o_nil0 rfl ?_
      refine c_seq ?_
      refine c_seq ?_
      refine c_region ?_
      refine o_T (y_move rfl) rfl ?_
      refine o_T (y_eql rfl rfl) rfl ?_
      refine o_nil1 44 rfl rfl ?_
      refine c_cond rfl (fun h3 => ?_) (fun h3 => ?_)
      · have hm := cd_t h3 hm
        refine c_seq ?_
        refine c_region ?_
        refine o_L (y_assign rfl) rfl rfl ?_
        refine o_L (y_assign rfl) rfl rfl ?_
        refine o_nil0 rfl ?_
        refine c_ret ?_
        obtain ⟨rfl, rfl, rfl, rfl, rfl, rfl, rfl, rfl, rfl⟩ := pr9 hm
        refine fun aX wX heX hsX => ret2 Tryz.results65 heX rfl rfl (s_take (s_get (ks (ks (ks k0))) (s_get (ks (ks (ks k0))) (s_get (ks (ks (ks k0))) (s_get (ks (ks (ks k0))) (s_take (s_skip (s_skip (s_take (s_take (s_take (s_take (s_take (s_take (s_take (s_take (s_take s_nil))))))))))))))))) ?_
        exact ⟨v5, _, v6, _, v7, _, v1, _, v2, _, v3, _, v4, _, rfl, rfl, ho5, ho6, ho7, ho1, ho2, ho3, ho4⟩
      · have hm := cd_f h3 hm
        refine c_skip ?_
        refine c_seq ?_
        refine c_seq ?_
        refine c_region ?_
        refine o_T (y_fa fl_54_2 rfl) rfl ?_
        refine o_ld one_3 rfl (ms (ms m0)) (At.got (At.refl.comp Head.a_merge)) rfl ?_
        refine o_T (y_neq rfl rfl) rfl ?_
        refine o_nil1 47 rfl rfl ?_
        refine c_cond rfl (fun h4 => ?_) (fun h4 => ?_)
        · have hm := cd_t h4 hm
          refine c_seq ?_
          refine c_region ?_
          refine o_L (y_assign rfl) rfl rfl ?_
          refine o_L (y_assign rfl) rfl rfl ?_
          refine o_nil0 rfl ?_
          refine c_ret ?_
          obtain ⟨rfl, rfl, rfl, rfl, rfl, rfl, rfl, rfl, rfl⟩ := pr9 hm
          refine fun aX wX heX hsX => ret2 Tryz.results65 heX rfl rfl (s_take (s_get (ks (ks (ks k0))) (s_get (ks (ks (ks k0))) (s_get (ks (ks (ks k0))) (s_get (ks (ks (ks k0))) (s_take (s_skip (s_skip (s_take (s_take (s_take (s_take (s_take (s_take (s_take (s_take (s_take s_nil))))))))))))))))) ?_
          exact ⟨v5, _, v6, _, v7, _, v1, _, v2, _, v3, _, v4, _, rfl, rfl, ho5, ho6, ho7, ho1, ho2, ho3, ho4⟩
        · have hm := cd_f h4 hm
          refine c_skip ?_
          refine c_seq ?_
          refine c_region ?_
          refine o_T (y_move rfl) rfl ?_
          refine o_T (y_move rfl) rfl ?_
          obtain ⟨l2, hx6, hm⟩ := bd1 hm
          refine o_callC en_128 rfl (s_take (s_take (s_skip (s_skip (s_skip (s_skip (s_skip (s_skip (s_take (s_take (s_take (s_take (s_take (s_take (s_take s_nil))))))))))))))) (t128 ho1 ho2 ho3 ho4 hx6) rfl (fun u6 S6 hR6 => ?_)
          obtain ⟨v9, g9, rfl, rfl, ho9⟩ := hR6
          refine o_rest ?_
          refine o_L (y_assign rfl) rfl rfl ?_
          refine o_nil0 rfl ?_
          refine c_seq ?_
          refine c_seq ?_
          refine c_region ?_
          refine o_T (y_move rfl) rfl ?_
          refine o_T (y_move rfl) rfl ?_
          obtain ⟨c5, hx7, hm⟩ := bd1 hm
          refine o_callC en_148 rfl (s_take (s_skip (s_skip (s_skip (s_skip (s_skip (s_skip (s_skip (s_skip (s_skip (s_skip (s_skip (s_skip (s_skip (s_skip (s_skip (s_take s_nil))))))))))))))))) (t148 (ho9.rd.mono (fun _ hz => (ms (ms (ms (ms (ms (ms (ms (ms (mg hz))))))))))) hx7) rfl (fun u7 S7 hR7 => ?_)
          obtain ⟨rfl, rfl⟩ := hR7
          refine o_rest ?_
          refine o_T (y_not rfl) rfl ?_
          refine o_nil1 54 rfl rfl ?_
          refine c_cond rfl (fun h5 => ?_) (fun h5 => ?_)
          · have hm := cd_t h5 hm
            refine c_seq ?_
            refine c_region ?_
            refine o_L (y_assign rfl) rfl rfl ?_
            refine o_L (y_assign rfl) rfl rfl ?_
            refine o_nil0 rfl ?_
            refine c_ret ?_
            obtain ⟨rfl, rfl, rfl, rfl, rfl, rfl, rfl, rfl, rfl⟩ := pr9 hm
            refine fun aX wX heX hsX => ret2 Tryz.results65 heX rfl rfl (s_take (s_get (ks (ks (ks (ks (ks (ks (ks (ks (ks (ks (ks (ks k0)))))))))))) (s_get (ks (ks (ks (ks (ks (ks (ks (ks (ks (ks (ks (ks k0)))))))))))) (s_get (ks (ks (ks (ks (ks (ks (ks (ks (ks (ks (ks (ks k0)))))))))))) (s_get (ks (ks (ks (ks (ks (ks (ks (ks (ks (ks (ks (ks k0)))))))))))) (s_get (ks k0) (s_get (ks k0) (s_get (ks k0) (s_get (ks k0) (s_get (ks k0) (s_get (ks k0) (s_get (ks k0) (s_get (ks k0) (s_take (s_skip (s_skip (s_skip (s_take s_nil)))))))))))))))))) ?_
            exact ⟨v5, _, v6, _, v7, _, v1, _, v2, _, v3, _, v4, _, rfl, rfl, ho5, ho6, ho7, ho1, ho2, ho3, ho4⟩
          · have hm := cd_f h5 hm
            refine c_skip ?_
            refine c_seq ?_
            refine c_region ?_
            refine o_T (y_move rfl) rfl ?_
            refine o_T (y_nilck rfl) rfl ?_
            refine o_T (y_fa fl_130_0 rfl) rfl ?_
            refine o_ld one_30 rfl m0 (At.got (At.refl.comp RepoR.a_g)) rfl ?_
            refine o_T (y_move rfl) rfl ?_
            refine o_T (y_move rfl) rfl ?_
            obtain ⟨c6, c7, hx8, hm⟩ := bd2 hm
            refine o_callC en_149 rfl (s_skip (s_skip (s_take s_nil))) (t149 hx8) rfl (fun u8 S8 hR8 => ?_)
            obtain ⟨rfl, rfl⟩ := hR8
            refine o_rest ?_
            refine o_T (y_move rfl) rfl ?_
            refine o_T (y_extract rfl rfl) rfl ?_
            refine o_T (y_extract rfl rfl) rfl ?_
            refine o_L (y_assign rfl) rfl rfl ?_
            refine o_L (y_assign rfl) rfl rfl ?_
            refine o_nil0 rfl ?_
            refine c_seq ?_
            refine c_seq ?_
            refine c_region ?_
            refine o_T (y_move rfl) rfl ?_
            refine o_T (y_move rfl) rfl ?_
            refine o_T (y_eql rfl rfl) rfl ?_
            refine o_nil1 67 rfl rfl ?_
            refine c_cond rfl (fun h6 => ?_) (fun h6 => ?_)
            · have hm := cd_t h6 hm
              refine c_seq ?_
              refine c_region ?_
              refine o_L (y_assign rfl) rfl rfl ?_
              refine o_L (y_assign rfl) rfl rfl ?_
              refine o_nil0 rfl ?_
              refine c_ret ?_
              obtain ⟨rfl, rfl, rfl, rfl, rfl, rfl, rfl, rfl, rfl⟩ := pr9 hm
              refine fun aX wX heX hsX => ret2 Tryz.results65 heX rfl rfl (s_get (ks k0) (s_get (ks (ks (ks (ks (ks (ks (ks (ks (ks (ks (ks (ks k0)))))))))))) (s_get (ks (ks (ks (ks (ks (ks (ks (ks (ks (ks (ks (ks k0)))))))))))) (s_get (ks (ks (ks (ks (ks (ks (ks (ks (ks (ks (ks (ks k0)))))))))))) (s_get (ks (ks (ks (ks (ks (ks (ks (ks (ks (ks (ks (ks k0)))))))))))) (s_take (s_get (ks k0) (s_get (ks k0) (s_get (ks k0) (s_get (ks k0) (s_get (ks k0) (s_get (ks k0) (s_get (ks k0) (s_take (s_skip (s_skip (s_skip (s_take s_nil)))))))))))))))))) ?_
              exact ⟨v5, _, v6, _, v7, _, v1, _, v2, _, v3, _, v4, _, rfl, rfl, ho5, ho6, ho7, ho1, ho2, ho3, ho4⟩
            · have hm := cd_f h6 hm
              refine c_skip ?_
              refine c_seq ?_
              refine c_region ?_
              refine o_T (y_move rfl) rfl ?_
              refine o_T (y_move rfl) rfl ?_
              obtain ⟨l3, hx9, hm⟩ := bd1 hm
              refine o_callC en_128 rfl (s_get (ks k0) (s_take (s_skip (s_take (s_take (s_take (s_take (s_take (s_take (s_take s_nil)))))))))) (t128 ho1 ho2 ho3 ho4 hx9) rfl (fun u9 S9 hR9 => ?_)
              obtain ⟨v10, g10, rfl, rfl, ho10⟩ := hR9
              refine o_rest ?_
              refine o_L (y_assign rfl) rfl rfl ?_
              refine o_nil0 rfl ?_
              refine c_seq ?_
              refine c_seq ?_
              refine c_region ?_
              refine o_T (y_move rfl) rfl ?_
              refine o_T (y_move rfl) rfl ?_
              refine o_T (y_eql rfl rfl) rfl ?_
              refine o_nil1 73 rfl rfl ?_
              refine c_cond rfl (fun h7 => ?_) (fun h7 => ?_)
              · have hm := cd_t h7 hm
                refine c_seq ?_
                refine c_region ?_
                refine o_T (y_move rfl) rfl ?_
                refine o_lda ag_54 rfl (ms (ms (ms (ms (ms (ms (ms (ms (ms (ms (ms (ms m0)))))))))))) (At.exs At.refl (Head.len _)) (At.fits At.refl (Head.len _)) rfl ?_
                refine o_T (y_move rfl) rfl ?_
                refine o_T (y_move rfl) rfl ?_
                obtain ⟨c8, z2, z3, z4, z5, z6, z7, hx10, hm⟩ := bd7 hm
                refine o_callC en_150 rfl (s_take (s_take (s_take (s_take (s_take (s_take (s_take (s_take (s_take (s_skip (s_take s_nil))))))))))) (t150 ho1 ho2 ho3 ho4 (ho10.rd.mono (fun _ hz => (mg hz))) hx10) rfl (fun u10 S10 hR10 => ?_)
                obtain ⟨v11, g11, v12, g12, v13, g13, v14, g14, rfl, rfl, ho11, ho12, ho13, ho14⟩ := hR10
                refine o_rest ?_
                refine o_L (y_assign rfl) rfl rfl ?_
                refine o_L (y_assign rfl) rfl rfl ?_
                refine o_nil0 rfl ?_
                refine c_ret ?_
                obtain ⟨rfl, rfl, rfl, rfl, rfl, rfl, rfl, rfl, rfl⟩ := pr9 hm
                refine fun aX wX heX hsX => ret2 Tryz.results65 heX rfl rfl (s_take (s_get (ks (ks (ks (ks (ks (ks (ks (ks (ks (ks (ks (ks (ks k0))))))))))))) (s_get (ks (ks (ks (ks (ks (ks (ks (ks (ks (ks (ks (ks (ks k0))))))))))))) (s_get (ks (ks (ks (ks (ks (ks (ks (ks (ks (ks (ks (ks (ks k0))))))))))))) (s_get (ks (ks (ks (ks (ks (ks (ks (ks (ks (ks (ks (ks (ks k0))))))))))))) (s_take (s_take (s_take (s_take (s_take (s_take (s_take (s_take (s_take (s_skip (s_skip (s_skip (s_skip (s_take s_nil))))))))))))))))))) ?_
                exact ⟨v5, _, v6, _, v7, _, v11, _, v12, _, v13, _, v14, _, rfl, rfl, ho5, ho6, ho7, ho11, ho12, ho13, ho14⟩
              · have hm := cd_f h7 hm
                refine c_skip ?_
                refine c_seq ?_
                refine c_region ?_
                refine o_T (y_move rfl) rfl ?_
                refine o_T (y_move rfl) rfl ?_
                obtain ⟨l4, hx11, hm⟩ := bd1 hm
                refine o_callC en_128 rfl (s_take (s_take (s_take (s_take (s_take (s_take (s_take (s_take (s_take s_nil))))))))) (t128 ho1 ho2 ho3 ho4 hx11) rfl (fun u11 S11 hR11 => ?_)
                obtain ⟨v15, g15, rfl, rfl, ho15⟩ := hR11
                refine o_rest ?_
                refine o_L (y_assign rfl) rfl rfl ?_
                refine o_nil0 rfl ?_
                refine c_seq ?_
                refine c_region ?_
                refine o_T (y_move rfl) rfl ?_
                refine o_T (y_move rfl) rfl ?_
                refine o_T (y_move rfl) rfl ?_
                refine o_T (y_move rfl) rfl ?_
                obtain ⟨l5, c9, z8, hx12, hm⟩ := bd3 hm
                refine o_callC en_151 rfl (s_take (s_skip (s_skip (s_skip (s_skip (s_skip (s_skip (s_skip (s_skip (s_skip (s_skip (s_skip (s_skip (s_skip (s_skip (s_take (s_take (s_take (s_take s_nil))))))))))))))))))) (t151 ho5 ho6 ho7 (ho15.rd.mono (fun _ hz => (ms (ms (ms (ms (ms (ms (ms (ms (mg hz))))))))))) (ho9.rd.mono (fun _ hz => (ms (ms (ms (ms (ms (ms (ms (ms (ms (ms (ms (mg hz)))))))))))))) (ho10.rd.mono (fun _ hz => (ms (ms (ms (ms (ms (ms (ms (ms (ms (mg hz)))))))))))) hx12) rfl (fun u12 S12 hR12 => ?_)
                obtain ⟨v16, g16, v17, g17, v18, g18, v19, g19, rfl, rfl, ho16, ho17, ho18, ho19⟩ := hR12
                refine o_rest ?_
                refine o_T (y_move rfl) rfl ?_
                refine o_T (y_extract rfl rfl) rfl ?_
                refine o_T (y_extract rfl rfl) rfl ?_
                refine o_L (y_assign rfl) rfl rfl ?_
                refine o_L (y_assign rfl) rfl rfl ?_
                refine o_nil0 rfl ?_
                refine c_seq ?_
                refine c_region ?_
                refine o_T (y_move rfl) rfl ?_
                obtain ⟨c10, hx13, hm⟩ := bd1 hm
                refine o_callC en_152 rfl s_nil (t152 (ho16.rd.mono (fun _ hz => (ms (ms (ms (ms (ms (mg hz)))))))) hx13) rfl (fun u13 S13 hR13 => ?_)
                obtain ⟨rfl, rfl⟩ := hR13
                refine o_rest ?_
                refine o_L (y_assign rfl) rfl rfl ?_
                refine o_nil0 rfl ?_
                refine c_seq ?_
                refine c_seq ?_
                refine c_region ?_
                refine o_T (y_move rfl) rfl ?_
                refine o_T (y_neq rfl rfl) rfl ?_
                refine o_nil1 93 rfl rfl ?_
                refine c_cond rfl (fun h8 => ?_) (fun h8 => ?_)
                · have hm := cd_t h8 hm
                  refine c_seq ?_
                  refine c_region ?_
                  refine o_T (y_move rfl) rfl ?_
                  refine o_L (y_assign rfl) rfl rfl ?_
                  refine o_L (y_assign rfl) rfl rfl ?_
                  refine o_nil0 rfl ?_
                  refine c_ret ?_
                  obtain ⟨rfl, rfl, rfl, rfl, rfl, rfl, rfl, rfl, rfl⟩ := pr9 hm
                  refine fun aX wX heX hsX => ret2 Tryz.results65 heX rfl rfl (s_take (s_take (s_take (s_take (s_take (s_skip (s_take (s_take (s_take (s_take (s_take (s_take (s_take (s_take (s_skip (s_skip (s_take (s_skip (s_skip (s_skip (s_take s_nil))))))))))))))))))))) ?_
                  exact ⟨v17, _, v18, _, v19, _, v1, _, v2, _, v3, _, v4, _, rfl, rfl, ho17, ho18, ho19, ho1, ho2, ho3, ho4⟩
                · have hm := cd_f h8 hm
                  refine c_skip ?_
                  refine c_seq ?_
                  refine c_seq ?_
                  refine c_region ?_
                  refine o_T (y_move rfl) rfl ?_
                  refine o_T (y_gtr rfl rfl) rfl ?_
                  refine o_nil1 96 rfl rfl ?_
                  obtain ⟨c11, z9, z10, z11, z12, hj1, hm⟩ := bd5 hm
                  refine c_joinP (n := 8) (fun sh G => ∃ (v20 : Value), ∃ (g20 : List Chunk), ∃ (v21 : Value), ∃ (g21 : List Chunk), ∃ (v22 : Value), ∃ (g22 : List Chunk), ∃ (v23 : Value), ∃ (g23 : List Chunk), sh = [(18, .int .i64 c11)] ∧ G = [[(b2, .cells (Graph.enc (.pointer (some ⟨b3, 0, none⟩)) z9).toArray 179 (0, 0))], [(b3, .cells (Trees.enc (.pointer (some ⟨b4, 0, none⟩)) z10).toArray 169 (0, 0))], [(b4, .cells (Store.enc (.pointer (some ⟨b5, 0, none⟩)) z11).toArray 126 (0, 0))], [(b5, .cells (Dev.enc (v20) (v21) (v22) (v23) z12).toArray 85 (0, 0))], g20, g21, g22, g23] ∧ Own rByte v20 z12.blk g20 ∧ Own rByte v21 z12.base g21 ∧ Own rInt v22 z12.at_ g22 ∧ Own rByte v23 z12.data g23) (s_get (ks (ks (ks (ks (ks (ks k0)))))) (s_get (ks (ks (ks (ks (ks (ks k0)))))) (s_get (ks (ks (ks (ks (ks (ks k0)))))) (s_get (ks (ks (ks (ks (ks (ks k0)))))) (s_get (ks (ks (ks (ks (ks (ks k0)))))) (s_get (ks (ks (ks (ks (ks (ks k0)))))) (s_get (ks (ks (ks (ks (ks (ks k0)))))) (s_get (ks (ks (ks (ks (ks (ks k0)))))) (s_take (s_take (s_take (s_take (s_take (s_take (s_skip (s_skip (s_take (s_skip (s_skip (s_skip (s_take s_nil))))))))))))))))))))) (.s (.s (.s (.s (.s (.s (.s (.s .z)))))))) (fun _ _ h => h) ?_ ?_
                  · have hm := hj1
                    refine c_cond rfl (fun h9 => ?_) (fun h9 => ?_)
                    · have hm := cd_t h9 hm
                      refine c_draw #[true, true, true, true, true, true, true, true, true, true, false, true] rfl (n := 12) rfl ?_
                      refine d_T 0 rfl sb_65_28_0 rfl (y_move rfl) rfl ?_
                      refine d_T 1 rfl sb_65_28_1 rfl (y_nilck rfl) rfl ?_
                      refine d_T 2 rfl sb_65_28_2 rfl (y_fa fl_130_0 rfl) rfl ?_
                      refine d_ld 3 rfl sb_65_28_3 one_30 rfl (fun x hx => hx) m0 (At.got (At.refl.comp RepoR.a_g)) rfl ?_
                      refine d_T 4 rfl sb_65_28_4 rfl (y_fa fl_54_0 rfl) rfl ?_
                      refine d_ld 5 rfl sb_65_28_5 one_9 rfl (fun x hx => hx) (ms (ms (ms (ms (ms (ms (ms (ms (ms (ms (ms (ms (ms (ms (ms (ms (ms (ms m0)))))))))))))))))) (At.got (At.refl.comp Head.a_name)) rfl ?_
                      refine d_T 6 rfl sb_65_28_6 rfl (y_fa fl_54_1 rfl) rfl ?_
                      refine d_ld 7 rfl sb_65_28_7 one_3 rfl (fun x hx => hx) (ms (ms (ms (ms (ms (ms (ms (ms (ms (ms (ms (ms (ms (ms (ms (ms (ms (ms m0)))))))))))))))))) (At.got (At.refl.comp Head.a_seq)) rfl ?_
                      refine d_T 8 rfl sb_65_28_8 rfl (y_move rfl) rfl ?_
                      refine d_T 9 rfl sb_65_28_9 rfl (y_build st_54 rfl (fbU rfl Head.u_name rfl rfl (fbU rfl Head.u_seq rfl rfl (fbU rfl Head.u_merge rfl rfl fbU0)))) rfl ?_
                      refine d_hard 10 rfl sb_65_28_10 ?_
                      obtain ⟨c12, z13, hx14, hm⟩ := bd2 hm
                      refine o_callC en_153 rfl (s_skip (s_skip (s_skip (s_skip (s_skip (s_skip (s_take s_nil))))))) (t153 hx14) rfl (fun u14 S14 hR14 => ?_)
                      obtain ⟨rfl, rfl⟩ := hR14
                      refine o_rest ?_
                      refine o_stop (fun h => nomatch h) ?_
                      refine d_L 11 rfl sb_65_28_11 rfl (y_assign rfl) rfl rfl ?_
                      refine d_nil0 sb_65_28_12 rfl ?_
                      obtain ⟨rfl, rfl, rfl, rfl, rfl⟩ := pr5 hm
                      exact ⟨_, _, ⟨v1, _, v2, _, v3, _, v4, _, rfl, rfl, ho1, ho2, ho3, ho4⟩, ⟨rfl, trivial⟩, ⟨rfl, rfl⟩, _, (s_take (s_get (ks (ks (ks (ks (ks (ks k0)))))) (s_get (ks (ks (ks (ks (ks (ks k0)))))) (s_get (ks (ks (ks (ks (ks (ks k0)))))) (s_get (ks (ks (ks (ks (ks (ks k0)))))) (s_get (ks (ks (ks (ks (ks (ks k0)))))) (s_get (ks (ks (ks (ks (ks (ks k0)))))) (s_get (ks (ks (ks (ks (ks (ks k0)))))) (s_take (s_take (s_take (s_take (s_take (s_take (s_skip (s_skip (s_take (s_skip (s_skip (s_skip (s_take s_nil)))))))))))))))))))))⟩
                    · have hm := cd_f h9 hm
                      refine c_region ?_
                      refine o_T (y_move rfl) rfl ?_
                      refine o_lda ag_54 rfl (ms (ms (ms (ms (ms (ms (ms (ms (ms (ms (ms (ms (ms (ms (ms (ms (ms (ms m0)))))))))))))))))) (At.exs At.refl (Head.len _)) (At.fits At.refl (Head.len _)) rfl ?_
                      refine o_T (y_move rfl) rfl ?_
                      refine o_T (y_move rfl) rfl ?_
                      refine o_T (y_move rfl) rfl ?_
                      obtain ⟨c13, z14, z15, z16, z17, hx15, hm⟩ := bd5 hm
                      refine o_callC en_154 rfl (s_take (s_skip (s_skip (s_skip (s_skip (s_skip (s_take (s_take (s_take (s_take (s_take (s_take (s_take (s_take s_nil)))))))))))))) (t154 ho1 ho2 ho3 ho4 (ho16.rd.mono (fun _ hz => (ms (ms (ms (ms (mg hz))))))) hx15) rfl (fun u15 S15 hR15 => ?_)
                      obtain ⟨v24, g24, v25, g25, v26, g26, v27, g27, rfl, rfl, ho24, ho25, ho26, ho27⟩ := hR15
                      refine o_rest ?_
                      refine o_L (y_assign rfl) rfl rfl ?_
                      refine o_nil0 rfl ?_
                      obtain ⟨rfl, rfl, rfl, rfl, rfl⟩ := pr5 hm
                      exact ⟨_, _, ⟨v24, _, v25, _, v26, _, v27, _, rfl, rfl, ho24, ho25, ho26, ho27⟩, ⟨rfl, trivial⟩, ⟨rfl, rfl⟩, _, (s_get (ks k0) (s_get (ks k0) (s_get (ks k0) (s_get (ks k0) (s_get (ks k0) (s_get (ks k0) (s_get (ks k0) (s_get (ks k0) (s_take (s_take (s_take (s_take (s_take (s_take (s_skip (s_skip (s_take (s_skip (s_skip (s_skip (s_take s_nil)))))))))))))))))))))⟩
                  · rintro sh G ⟨v20, g20, v21, g21, v22, g22, v23, g23, rfl, rfl, ho20, ho21, ho22, ho23⟩
                    refine c_seq ?_
                    refine c_seq ?_
                    refine c_region ?_
                    refine o_T (y_move rfl) rfl ?_
                    refine o_T (y_neq rfl rfl) rfl ?_
                    refine o_nil1 115 rfl rfl ?_
                    refine c_cond rfl (fun h10 => ?_) (fun h10 => ?_)
                    · have hm := cd_t h10 hm
                      refine c_seq ?_
                      refine c_region ?_
                      refine o_T (y_move rfl) rfl ?_
                      refine o_T (y_move rfl) rfl ?_
                      obtain ⟨c14, z18, z19, z20, z21, hx16, hm⟩ := bd5 hm
                      refine o_callC en_131 rfl (s_get (ks (ks (ks (ks (ks (ks (ks (ks k0)))))))) (s_take (s_take (s_take (s_take (s_take (s_take (s_take (s_take (s_skip (s_skip (s_skip (s_skip (s_skip (s_take s_nil))))))))))))))) (t131 ho20 ho21 ho22 ho23 hx16) rfl (fun u16 S16 hR16 => ?_)
                      obtain ⟨rfl, rfl⟩ := hR16
                      refine o_rest ?_
                      refine o_L (y_assign rfl) rfl rfl ?_
                      refine o_L (y_assign rfl) rfl rfl ?_
                      refine o_nil0 rfl ?_
                      refine c_ret ?_
                      obtain ⟨rfl, rfl, rfl, rfl, rfl, rfl, rfl, rfl, rfl⟩ := pr9 hm
                      refine fun aX wX heX hsX => ret2 Tryz.results65 heX rfl rfl (s_take (s_get (ks (ks (ks (ks (ks (ks (ks (ks (ks k0))))))))) (s_get (ks (ks (ks (ks (ks (ks (ks (ks (ks k0))))))))) (s_get (ks (ks (ks (ks (ks (ks (ks (ks (ks k0))))))))) (s_get (ks (ks (ks (ks (ks (ks (ks (ks (ks k0))))))))) (s_take (s_take (s_take (s_take (s_take (s_take (s_take (s_take (s_take (s_skip (s_take s_nil)))))))))))))))) ?_
                      exact ⟨v17, _, v18, _, v19, _, v20, _, v21, _, v22, _, v23, _, rfl, rfl, ho17, ho18, ho19, ho20, ho21, ho22, ho23⟩
                    · have hm := cd_f h10 hm
                      refine c_skip ?_
                      refine c_seq ?_
                      refine c_region ?_
                      refine o_T (y_move rfl) rfl ?_
                      refine o_T (y_move rfl) rfl ?_
                      obtain ⟨c15, z22, z23, z24, z25, z26, hx17, hm⟩ := bd6 hm
                      refine o_callC en_123 rfl (s_get (ks (ks (ks (ks (ks (ks (ks (ks k0)))))))) (s_take (s_take (s_take (s_take (s_take (s_take (s_take (s_take (s_skip (s_skip (s_skip (s_skip (s_skip (s_take s_nil))))))))))))))) (t123 ho20 ho21 ho22 ho23 (ho16.rd.mono (fun _ hz => (ms (ms (ms (ms (mg hz))))))) hx17) rfl (fun u17 S17 hR17 => ?_)
                      obtain ⟨v28, g28, v29, g29, v30, g30, v31, g31, rfl, rfl, ho28, ho29, ho30, ho31⟩ := hR17
                      refine o_rest ?_
                      refine o_L (y_assign rfl) rfl rfl ?_
                      refine o_nil0 rfl ?_
                      refine c_seq ?_
                      refine c_seq ?_
                      refine c_region ?_
                      refine o_T (y_move rfl) rfl ?_
                      refine o_T (y_neq rfl rfl) rfl ?_
                      refine o_nil1 123 rfl rfl ?_
                      refine c_cond rfl (fun h11 => ?_) (fun h11 => ?_)
                      · have hm := cd_t h11 hm
                        refine c_seq ?_
                        refine c_region ?_
                        refine o_T (y_move rfl) rfl ?_
                        refine o_L (y_assign rfl) rfl rfl ?_
                        refine o_L (y_assign rfl) rfl rfl ?_
                        refine o_nil0 rfl ?_
                        refine c_ret ?_
                        obtain ⟨rfl, rfl, rfl, rfl, rfl, rfl, rfl, rfl, rfl⟩ := pr9 hm
                        refine fun aX wX heX hsX => ret2 Tryz.results65 heX rfl rfl (s_take (s_get (ks (ks (ks (ks (ks (ks (ks (ks (ks k0))))))))) (s_get (ks (ks (ks (ks (ks (ks (ks (ks (ks k0))))))))) (s_get (ks (ks (ks (ks (ks (ks (ks (ks (ks k0))))))))) (s_get (ks (ks (ks (ks (ks (ks (ks (ks (ks k0))))))))) (s_take (s_take (s_take (s_take (s_take (s_take (s_take (s_take (s_take (s_skip (s_take s_nil)))))))))))))))) ?_
                        exact ⟨v17, _, v18, _, v19, _, v28, _, v29, _, v30, _, v31, _, rfl, rfl, ho17, ho18, ho19, ho28, ho29, ho30, ho31⟩
                      · have hm := cd_f h11 hm
                        refine c_skip ?_
                        refine c_seq ?_
                        refine c_region ?_
                        refine o_T (y_move rfl) rfl ?_
                        refine o_T (y_move rfl) rfl ?_
                        obtain ⟨z27, z28, hx18, hm⟩ := bd2 hm
                        refine o_callC en_155 rfl (s_take (s_skip (s_skip (s_skip (s_skip (s_skip (s_skip (s_skip (s_skip (s_take s_nil)))))))))) (t155 (ho16.rd.mono (fun _ hz => (ms (ms (ms (ms (ms (ms (ms (ms (ms (ms (ms (ms (mg hz))))))))))))))) hx18) rfl (fun u18 S18 hR18 => ?_)
                        obtain ⟨rfl, rfl⟩ := hR18
                        refine o_rest ?_
                        refine o_nil0 rfl ?_
                        refine c_seq ?_
                        refine c_region ?_
                        refine o_T (y_move rfl) rfl ?_
                        refine o_L (y_assign rfl) rfl rfl ?_
                        refine o_L (y_assign rfl) rfl rfl ?_
                        refine o_nil0 rfl ?_
                        refine c_ret ?_
                        obtain ⟨rfl, rfl, rfl, rfl, rfl, rfl, rfl, rfl, rfl⟩ := pr9 hm
                        refine fun aX wX heX hsX => ret2 Tryz.results65 heX rfl rfl (s_take (s_get (ks (ks (ks (ks (ks (ks (ks (ks (ks k0))))))))) (s_get (ks (ks (ks (ks (ks (ks (ks (ks (ks k0))))))))) (s_get (ks (ks (ks (ks (ks (ks (ks (ks (ks k0))))))))) (s_get (ks (ks (ks (ks (ks (ks (ks (ks (ks k0))))))))) (s_get (ks k0) (s_get (ks k0) (s_get (ks k0) (s_get (ks k0) (s_get (ks k0) (s_get (ks k0) (s_get (ks k0) (s_get (ks k0) (s_take (s_skip (s_take s_nil)))))))))))))))) ?_
                        exact ⟨v17, _, v18, _, v19, _, v28, _, v29, _, v30, _, v31, _, rfl, rfl, ho17, ho18, ho19, ho28, ho29, ho30, ho31⟩
end Go.Proofs.Qxb6500350aGreat
