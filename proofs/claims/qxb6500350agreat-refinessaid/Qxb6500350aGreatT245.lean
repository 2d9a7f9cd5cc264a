/- MADE BY PROGRAM (tools350/mir.py): mirror and walk. -/
import Derived.Test.Qxb6500350aGreatF2
import Derived.Test.Qxb6500350aGreatT195
set_option linter.unusedVariables false
set_option linter.unusedSimpArgs false
set_option maxRecDepth 20000
set_option maxHeartbeats 4000000
namespace Go.Proofs.Qxb6500350aGreat
open Go.Eng

def op_245_4 : Array Go.Oper := #[{ dst := some 16, op := Go.Op.move (Go.Operand.tmp 0), type := 29, pos := "tree.go:53", after := #[], guard := none }, { dst := some 17, op := Go.Op.move (Go.Operand.tmp 6), type := 209, pos := "tree.go:53", after := #[], guard := none }, { dst := some 18, op := Go.Op.move (Go.Operand.tmp 7), type := 3, pos := "tree.go:53", after := #[], guard := none }, { dst := some 19, op := Go.Op.indexAddr 209 (Go.Operand.tmp 17) (Go.Operand.tmp 18), type := 0, pos := "tree.go:53", after := #[{ on := 1, ground := Go.Ground.data }, { on := 2, ground := Go.Ground.data }], guard := none }, { dst := some 20, op := Go.Op.fieldAddr 213 (Go.Operand.tmp 19) 2, type := 0, pos := "tree.go:53", after := #[{ on := 3, ground := Go.Ground.data }], guard := none }, { dst := some 21, op := Go.Op.load 3 (Go.Operand.tmp 20), type := 3, pos := "tree.go:53", after := #[{ on := 4, ground := Go.Ground.data }], guard := none }, { dst := some 22, op := Go.Op.nilCheck (Go.Operand.tmp 16), type := 0, pos := "tree.go:53", after := #[{ on := 0, ground := Go.Ground.data }], guard := none }, { dst := some 23, op := Go.Op.fieldAddr 169 (Go.Operand.tmp 22) 2, type := 0, pos := "tree.go:53", after := #[{ on := 6, ground := Go.Ground.data }], guard := none }, { dst := some 24, op := Go.Op.indexAddr 167 (Go.Operand.tmp 23) (Go.Operand.tmp 21), type := 0, pos := "tree.go:53", after := #[{ on := 7, ground := Go.Ground.data }, { on := 5, ground := Go.Ground.data }], guard := none }, { dst := some 25, op := Go.Op.load 3 (Go.Operand.tmp 24), type := 3, pos := "tree.go:53", after := #[{ on := 8, ground := Go.Ground.data }], guard := none }, { dst := some 26, op := Go.Op.move (Go.Operand.tmp 2), type := 3, pos := "tree.go:53", after := #[], guard := none }, { dst := some 27, op := Go.Op.binOp Go.BinOp.add 3 (Go.Operand.tmp 25) (Go.Operand.tmp 26) 3, type := 3, pos := "tree.go:53", after := #[{ on := 9, ground := Go.Ground.data }, { on := 10, ground := Go.Ground.data }], guard := none }, { dst := some 28, op := Go.Op.nilCheck (Go.Operand.tmp 16), type := 0, pos := "tree.go:53", after := #[{ on := 0, ground := Go.Ground.data }], guard := none }, { dst := some 29, op := Go.Op.fieldAddr 169 (Go.Operand.tmp 28) 2, type := 0, pos := "tree.go:53", after := #[{ on := 12, ground := Go.Ground.data }], guard := none }, { dst := some 30, op := Go.Op.indexAddr 167 (Go.Operand.tmp 29) (Go.Operand.tmp 21), type := 0, pos := "tree.go:53", after := #[{ on := 13, ground := Go.Ground.data }, { on := 5, ground := Go.Ground.data }, { on := 0, ground := Go.Ground.phase }, { on := 1, ground := Go.Ground.phase }, { on := 2, ground := Go.Ground.phase }, { on := 3, ground := Go.Ground.phase }, { on := 4, ground := Go.Ground.phase }, { on := 5, ground := Go.Ground.phase }, { on := 6, ground := Go.Ground.phase }, { on := 7, ground := Go.Ground.phase }, { on := 8, ground := Go.Ground.phase }, { on := 9, ground := Go.Ground.phase }, { on := 10, ground := Go.Ground.phase }, { on := 11, ground := Go.Ground.phase }], guard := none }, { dst := none, op := Go.Op.store 3 (Go.Operand.tmp 30) (Go.Operand.tmp 27), type := 0, pos := "tree.go:53", after := #[{ on := 14, ground := Go.Ground.data }, { on := 11, ground := Go.Ground.data }, { on := 0, ground := Go.Ground.phase }, { on := 1, ground := Go.Ground.phase }, { on := 2, ground := Go.Ground.phase }, { on := 3, ground := Go.Ground.phase }, { on := 4, ground := Go.Ground.phase }, { on := 5, ground := Go.Ground.phase }, { on := 6, ground := Go.Ground.phase }, { on := 7, ground := Go.Ground.phase }, { on := 8, ground := Go.Ground.phase }, { on := 9, ground := Go.Ground.phase }, { on := 10, ground := Go.Ground.phase }, { on := 11, ground := Go.Ground.phase }], guard := none }]
theorem sb_245_4_0 : softB op_245_4 #[true, true, true, true, true, true, true, true, true, true, true, true, true, true, true, false] (Array.replicate 16 false) 0 = true := by kernel_rfl
theorem sb_245_4_1 : softB op_245_4 #[true, true, true, true, true, true, true, true, true, true, true, true, true, true, true, false] ((Array.replicate 16 false).setIfInBounds 0 true) 1 = true := by kernel_rfl
theorem sb_245_4_2 : softB op_245_4 #[true, true, true, true, true, true, true, true, true, true, true, true, true, true, true, false] (((Array.replicate 16 false).setIfInBounds 0 true).setIfInBounds 1 true) 2 = true := by kernel_rfl
theorem sb_245_4_3 : softB op_245_4 #[true, true, true, true, true, true, true, true, true, true, true, true, true, true, true, false] ((((Array.replicate 16 false).setIfInBounds 0 true).setIfInBounds 1 true).setIfInBounds 2 true) 3 = true := by kernel_rfl
theorem sb_245_4_4 : softB op_245_4 #[true, true, true, true, true, true, true, true, true, true, true, true, true, true, true, false] (((((Array.replicate 16 false).setIfInBounds 0 true).setIfInBounds 1 true).setIfInBounds 2 true).setIfInBounds 3 true) 4 = true := by kernel_rfl
theorem sb_245_4_5 : softB op_245_4 #[true, true, true, true, true, true, true, true, true, true, true, true, true, true, true, false] ((((((Array.replicate 16 false).setIfInBounds 0 true).setIfInBounds 1 true).setIfInBounds 2 true).setIfInBounds 3 true).setIfInBounds 4 true) 5 = true := by kernel_rfl
theorem sb_245_4_6 : softB op_245_4 #[true, true, true, true, true, true, true, true, true, true, true, true, true, true, true, false] (((((((Array.replicate 16 false).setIfInBounds 0 true).setIfInBounds 1 true).setIfInBounds 2 true).setIfInBounds 3 true).setIfInBounds 4 true).setIfInBounds 5 true) 6 = true := by kernel_rfl
theorem sb_245_4_7 : softB op_245_4 #[true, true, true, true, true, true, true, true, true, true, true, true, true, true, true, false] ((((((((Array.replicate 16 false).setIfInBounds 0 true).setIfInBounds 1 true).setIfInBounds 2 true).setIfInBounds 3 true).setIfInBounds 4 true).setIfInBounds 5 true).setIfInBounds 6 true) 7 = true := by kernel_rfl
theorem sb_245_4_8 : softB op_245_4 #[true, true, true, true, true, true, true, true, true, true, true, true, true, true, true, false] (((((((((Array.replicate 16 false).setIfInBounds 0 true).setIfInBounds 1 true).setIfInBounds 2 true).setIfInBounds 3 true).setIfInBounds 4 true).setIfInBounds 5 true).setIfInBounds 6 true).setIfInBounds 7 true) 8 = true := by kernel_rfl
theorem sb_245_4_9 : softB op_245_4 #[true, true, true, true, true, true, true, true, true, true, true, true, true, true, true, false] ((((((((((Array.replicate 16 false).setIfInBounds 0 true).setIfInBounds 1 true).setIfInBounds 2 true).setIfInBounds 3 true).setIfInBounds 4 true).setIfInBounds 5 true).setIfInBounds 6 true).setIfInBounds 7 true).setIfInBounds 8 true) 9 = true := by kernel_rfl
theorem sb_245_4_10 : softB op_245_4 #[true, true, true, true, true, true, true, true, true, true, true, true, true, true, true, false] (((((((((((Array.replicate 16 false).setIfInBounds 0 true).setIfInBounds 1 true).setIfInBounds 2 true).setIfInBounds 3 true).setIfInBounds 4 true).setIfInBounds 5 true).setIfInBounds 6 true).setIfInBounds 7 true).setIfInBounds 8 true).setIfInBounds 9 true) 10 = true := by kernel_rfl
theorem sb_245_4_11 : softB op_245_4 #[true, true, true, true, true, true, true, true, true, true, true, true, true, true, true, false] ((((((((((((Array.replicate 16 false).setIfInBounds 0 true).setIfInBounds 1 true).setIfInBounds 2 true).setIfInBounds 3 true).setIfInBounds 4 true).setIfInBounds 5 true).setIfInBounds 6 true).setIfInBounds 7 true).setIfInBounds 8 true).setIfInBounds 9 true).setIfInBounds 10 true) 11 = true := by kernel_rfl
theorem sb_245_4_12 : softB op_245_4 #[true, true, true, true, true, true, true, true, true, true, true, true, true, true, true, false] (((((((((((((Array.replicate 16 false).setIfInBounds 0 true).setIfInBounds 1 true).setIfInBounds 2 true).setIfInBounds 3 true).setIfInBounds 4 true).setIfInBounds 5 true).setIfInBounds 6 true).setIfInBounds 7 true).setIfInBounds 8 true).setIfInBounds 9 true).setIfInBounds 10 true).setIfInBounds 11 true) 12 = true := by kernel_rfl
theorem sb_245_4_13 : softB op_245_4 #[true, true, true, true, true, true, true, true, true, true, true, true, true, true, true, false] ((((((((((((((Array.replicate 16 false).setIfInBounds 0 true).setIfInBounds 1 true).setIfInBounds 2 true).setIfInBounds 3 true).setIfInBounds 4 true).setIfInBounds 5 true).setIfInBounds 6 true).setIfInBounds 7 true).setIfInBounds 8 true).setIfInBounds 9 true).setIfInBounds 10 true).setIfInBounds 11 true).setIfInBounds 12 true) 13 = true := by kernel_rfl
theorem sb_245_4_14 : softB op_245_4 #[true, true, true, true, true, true, true, true, true, true, true, true, true, true, true, false] (((((((((((((((Array.replicate 16 false).setIfInBounds 0 true).setIfInBounds 1 true).setIfInBounds 2 true).setIfInBounds 3 true).setIfInBounds 4 true).setIfInBounds 5 true).setIfInBounds 6 true).setIfInBounds 7 true).setIfInBounds 8 true).setIfInBounds 9 true).setIfInBounds 10 true).setIfInBounds 11 true).setIfInBounds 12 true).setIfInBounds 13 true) 14 = true := by kernel_rfl
theorem sb_245_4_15 : hardB op_245_4 ((((((((((((((((Array.replicate 16 false).setIfInBounds 0 true).setIfInBounds 1 true).setIfInBounds 2 true).setIfInBounds 3 true).setIfInBounds 4 true).setIfInBounds 5 true).setIfInBounds 6 true).setIfInBounds 7 true).setIfInBounds 8 true).setIfInBounds 9 true).setIfInBounds 10 true).setIfInBounds 11 true).setIfInBounds 12 true).setIfInBounds 13 true).setIfInBounds 14 true) [15] = true := by kernel_rfl
theorem sb_245_4_16 : hardB op_245_4 (((((((((((((((((Array.replicate 16 false).setIfInBounds 0 true).setIfInBounds 1 true).setIfInBounds 2 true).setIfInBounds 3 true).setIfInBounds 4 true).setIfInBounds 5 true).setIfInBounds 6 true).setIfInBounds 7 true).setIfInBounds 8 true).setIfInBounds 9 true).setIfInBounds 10 true).setIfInBounds 11 true).setIfInBounds 12 true).setIfInBounds 13 true).setIfInBounds 14 true).setIfInBounds 15 true) [] = true := by kernel_rfl
/- (*tree.Trees).tally -/
def m245_w1 (n : Nat) (d : Int) (l1 : List Line) (mm : Nat) : Int → Trees → Option (Int × Trees) := it2 (fun lp1 c1 z1 =>
cond (decide (c1 < (l1.length : Int))) (
Option.bind (ixL l1 c1) fun x1 =>
Option.bind (ckA x1.id 49) fun _ =>
Option.bind (ckA x1.id 49) fun _ =>
nm ({ z1 with count := (upI z1.count x1.id (wi ((z1.count x1.id) + d))) } : Trees) fun z4 =>
lp1 (wi (c1 + 1)) z4) (
some (c1, z1))) mm
def m245 (n : Nat) (t : Trees) (data : (List UInt8)) (d : Int) : Option (Trees) :=
ob1 (m195 n data) fun l1 =>
ob2 (m245_w1 n d l1 n 0 t) fun c2 z2 =>
some z2
theorem t245 {n : Nat} {C : List Chunk} {rz1 : Trees} {b1 : Nat} {t : Trees} {q1 : Option Addr} {v1 : Value} {data : (List UInt8)} {d : Int} (hr1 : Rd rByte C v1 data)  (hm : m245 n t data d = some rz1) : Trip Tryz.prog 245 #[.pointer (some ⟨b1, 0, none⟩), v1, .int .i64 d] ([[(b1, .cells (Trees.enc ((.pointer q1)) t).toArray 169 (0, 0))]] ++ [C]) (fun u S' => .tuple #[] = u ∧ S' = [[(b1, .cells (Trees.enc ((.pointer q1)) rz1).toArray 169 (0, 0))]] ++ [C]) := by
  refine fn_entry (args := [.pointer (some ⟨b1, 0, none⟩), v1, .int .i64 d]) Tryz.func245 rfl Tryz.ntmps245 rfl (fun w0 => ?_)
  refine c_seq ?_
  refine c_region ?_
  refine o_T (y_move rfl) rfl ?_
  obtain ⟨l1, hx1, hm⟩ := bd1 hm
  refine o_callC en_195 rfl s_nil (t195 (hr1.mono (fun _ hz => (ms (mg hz)))) hx1) rfl (fun u1 S1 hR1 => ?_)
  obtain ⟨v2, g1, rfl, rfl, ho1⟩ := hR1
  refine o_rest ?_
  refine o_L (y_assign rfl) rfl rfl ?_
  refine o_nil0 rfl ?_
  refine c_seq ?_
  refine c_region ?_
  refine o_L (y_assign rfl) rfl rfl ?_
  refine o_nil0 rfl ?_
  obtain ⟨c2, z2, hj1, hm⟩ := bd2 hm
  have hk1 := hm
  refine c_block ?_
  refine c_loopP (n := 1) (fun mm sh G => ∃ (c1 : Int), ∃ (z1 : Trees), sh = [(7, .int .i64 c1)] ∧ G = [[(b1, .cells (Trees.enc ((.pointer q1)) z1).toArray 169 (0, 0))]] ∧ m245_w1 n d l1 mm c1 z1 = some (c2, z2)) n (s_get (ks k0) (s_take (s_take s_nil))) (.s .z) ⟨_, _, ⟨_, _, rfl, rfl, hj1⟩, ⟨rfl, trivial⟩, _, (s_get (ks k0) (s_take (s_take s_nil)))⟩ ?_
  rintro mm sh G ⟨c1, z1, rfl, rfl, hm⟩
  obtain ⟨mm1, rfl, hm⟩ := it2_s hm
  refine c_seq ?_
  refine c_seq ?_
  refine c_region ?_
  refine o_T (y_move rfl) rfl ?_
  refine o_T (y_move rfl) rfl ?_
  refine o_T (y_lenR ho1.rd Tryz.underlying209 rfl) rfl ?_
  refine o_T (y_lss rfl rfl) rfl ?_
  refine o_nil1 13 rfl rfl ?_
  refine c_cond rfl (fun h1 => ?_) (fun h1 => ?_)
  · have hm := cd_t h1 hm
    refine c_skip ?_
    refine c_seq ?_
    refine c_block ?_
    refine c_draw #[true, true, true, true, true, true, true, true, true, true, true, true, true, true, true, false] rfl (n := 16) rfl ?_
    refine d_T 0 rfl sb_245_4_0 rfl (y_move rfl) rfl ?_
    refine d_T 1 rfl sb_245_4_1 rfl (y_move rfl) rfl ?_
    refine d_T 2 rfl sb_245_4_2 rfl (y_move rfl) rfl ?_
    obtain ⟨x1, hx2, hm⟩ := bd hm
    obtain ⟨b2, w1, cs1, y1, z3, vs1, hc1, ha1, hr2, hy1⟩ := ho1.rd.ix hx2
    obtain rfl : vs1 = Line.enc x1 := hr2
    refine d_T 3 rfl sb_245_4_3 rfl (hy1 sl_209 rfl rfl rfl) rfl ?_
    refine d_T 4 rfl sb_245_4_4 rfl (y_fa fl_213_2 rfl) rfl ?_
    refine d_ld 5 rfl sb_245_4_5 one_3 rfl (fun x hx => hx) (ms (mg hc1)) (At.getA (ha1.comp Line.a_id)) rfl ?_
    refine d_T 6 rfl sb_245_4_6 rfl (y_nilck rfl) rfl ?_
    refine d_T 7 rfl sb_245_4_7 rfl (y_fa fl_169_2 rfl) rfl ?_
    obtain ⟨_, hx3, hm⟩ := bd hm
    have hx3 := ckA_some hx3
    refine d_T 8 rfl sb_245_4_8 rfl (y_ia ar_167 rfl rfl hx3.1 hx3.2) rfl ?_
    refine d_ld 9 rfl sb_245_4_9 one_3 rfl (fun x hx => hx) m0 (At.got ((At.refl.comp Trees.a_count).comp (encN_a encI_len _ _ hx3.1 _ hx3.2))) rfl ?_
    refine d_T 10 rfl sb_245_4_10 rfl (y_move rfl) rfl ?_
    refine d_T 11 rfl sb_245_4_11 rfl (y_add rfl rfl rfl) rfl ?_
    refine d_T 12 rfl sb_245_4_12 rfl (y_nilck rfl) rfl ?_
    refine d_T 13 rfl sb_245_4_13 rfl (y_fa fl_169_2 rfl) rfl ?_
    obtain ⟨_, hx4, hm⟩ := bd hm
    have hx4 := ckA_some hx4
    refine d_T 14 rfl sb_245_4_14 rfl (y_ia ar_167 rfl rfl hx4.1 hx4.2) rfl ?_
    refine d_hard 15 rfl sb_245_4_15 ?_
    obtain ⟨z4, hn1, hm⟩ := nm_s hm
    refine o_stN one_3 rfl rfl rfl ((Upd.z Trees.u_count).comp (encN_u encI_len _ _ _ hx4.1 _ hx4.2)) r0 (show (Trees.enc ((.pointer q1)) z4) = _ from by subst hn1; rfl) ?_
    refine o_stop (fun h => nomatch h) ?_
    refine d_nil0 sb_245_4_16 rfl ?_
    refine c_region ?_
    refine o_T (y_move rfl) rfl ?_
    refine o_T (y_add rfl rfl rfl) rfl ?_
    refine o_L (y_assign rfl) rfl rfl ?_
    refine o_nil0 rfl ?_
    exact ⟨mm1, Nat.lt_succ_self _, _, _, ⟨_, _, rfl, rfl, hm⟩, ⟨rfl, trivial⟩, ⟨rfl, rfl⟩, _, (s_take (s_take (s_take s_nil)))⟩
  · have hm := cd_f h1 hm
    refine c_exit ?_
    obtain ⟨rfl, rfl⟩ := pr2 hm
    have hm := hk1
    obtain rfl := p1 hm
    refine fun aX wX heX hsX => ret0 Tryz.results245 (s_take (s_skip (s_take s_nil))) ?_
    exact ⟨rfl, rfl⟩
end Go.Proofs.Qxb6500350aGreat
