/- MADE BY PROGRAM (tools350/mir.py): mirror and walk. -/
import Derived.Test.Qxb6500350aGreatF2
import Derived.Test.Qxb6500350aGreatT136
import Derived.Test.Qxb6500350aGreatT211
import Derived.Test.Qxb6500350aGreatT218
set_option linter.unusedVariables false
set_option linter.unusedSimpArgs false
set_option maxRecDepth 20000
set_option maxHeartbeats 4000000
namespace Go.Proofs.Qxb6500350aGreat
open Go.Eng

def op_139_15 : Array Go.Oper := #[{ dst := some 47, op := Go.Op.move (Go.Operand.tmp 0), type := 30, pos := "refs.go:34", after := #[], guard := none }, { dst := some 48, op := Go.Op.move (Go.Operand.tmp 10), type := 3, pos := "refs.go:34", after := #[], guard := none }, { dst := some 49, op := Go.Op.move (Go.Operand.tmp 0), type := 30, pos := "refs.go:34", after := #[], guard := none }, { dst := some 50, op := Go.Op.move (Go.Operand.tmp 10), type := 3, pos := "refs.go:34", after := #[], guard := none }, { dst := some 51, op := Go.Op.binOp Go.BinOp.sub 3 (Go.Operand.tmp 50) (Go.Operand.const (Go.Value.int Go.IntKind.i64 1)) 3, type := 3, pos := "refs.go:34", after := #[{ on := 3, ground := Go.Ground.data }], guard := none }, { dst := some 52, op := Go.Op.nilCheck (Go.Operand.tmp 49), type := 0, pos := "refs.go:34", after := #[{ on := 2, ground := Go.Ground.data }], guard := none }, { dst := some 53, op := Go.Op.fieldAddr 179 (Go.Operand.tmp 52) 4, type := 0, pos := "refs.go:34", after := #[{ on := 5, ground := Go.Ground.data }], guard := none }, { dst := some 54, op := Go.Op.indexAddr 177 (Go.Operand.tmp 53) (Go.Operand.tmp 51), type := 0, pos := "refs.go:34", after := #[{ on := 6, ground := Go.Ground.data }, { on := 4, ground := Go.Ground.data }], guard := none }, { dst := some 55, op := Go.Op.load 176 (Go.Operand.tmp 54), type := 176, pos := "refs.go:34", after := #[{ on := 7, ground := Go.Ground.data }], guard := none }, { dst := some 56, op := Go.Op.nilCheck (Go.Operand.tmp 47), type := 0, pos := "refs.go:34", after := #[{ on := 0, ground := Go.Ground.data }], guard := none }, { dst := some 57, op := Go.Op.fieldAddr 179 (Go.Operand.tmp 56) 4, type := 0, pos := "refs.go:34", after := #[{ on := 9, ground := Go.Ground.data }], guard := none }, { dst := some 58, op := Go.Op.indexAddr 177 (Go.Operand.tmp 57) (Go.Operand.tmp 48), type := 0, pos := "refs.go:34", after := #[{ on := 10, ground := Go.Ground.data }, { on := 1, ground := Go.Ground.data }, { on := 0, ground := Go.Ground.phase }, { on := 1, ground := Go.Ground.phase }, { on := 2, ground := Go.Ground.phase }, { on := 3, ground := Go.Ground.phase }, { on := 4, ground := Go.Ground.phase }, { on := 5, ground := Go.Ground.phase }, { on := 6, ground := Go.Ground.phase }, { on := 7, ground := Go.Ground.phase }, { on := 8, ground := Go.Ground.phase }], guard := none }, { dst := none, op := Go.Op.store 176 (Go.Operand.tmp 58) (Go.Operand.tmp 55), type := 0, pos := "refs.go:34", after := #[{ on := 11, ground := Go.Ground.data }, { on := 8, ground := Go.Ground.data }, { on := 0, ground := Go.Ground.phase }, { on := 1, ground := Go.Ground.phase }, { on := 2, ground := Go.Ground.phase }, { on := 3, ground := Go.Ground.phase }, { on := 4, ground := Go.Ground.phase }, { on := 5, ground := Go.Ground.phase }, { on := 6, ground := Go.Ground.phase }, { on := 7, ground := Go.Ground.phase }, { on := 8, ground := Go.Ground.phase }], guard := none }]
theorem sb_139_15_0 : softB op_139_15 #[true, true, true, true, true, true, true, true, true, true, true, true, false] (Array.replicate 13 false) 0 = true := by kernel_rfl
theorem sb_139_15_1 : softB op_139_15 #[true, true, true, true, true, true, true, true, true, true, true, true, false] ((Array.replicate 13 false).setIfInBounds 0 true) 1 = true := by kernel_rfl
theorem sb_139_15_2 : softB op_139_15 #[true, true, true, true, true, true, true, true, true, true, true, true, false] (((Array.replicate 13 false).setIfInBounds 0 true).setIfInBounds 1 true) 2 = true := by kernel_rfl
theorem sb_139_15_3 : softB op_139_15 #[true, true, true, true, true, true, true, true, true, true, true, true, false] ((((Array.replicate 13 false).setIfInBounds 0 true).setIfInBounds 1 true).setIfInBounds 2 true) 3 = true := by kernel_rfl
theorem sb_139_15_4 : softB op_139_15 #[true, true, true, true, true, true, true, true, true, true, true, true, false] (((((Array.replicate 13 false).setIfInBounds 0 true).setIfInBounds 1 true).setIfInBounds 2 true).setIfInBounds 3 true) 4 = true := by kernel_rfl
theorem sb_139_15_5 : softB op_139_15 #[true, true, true, true, true, true, true, true, true, true, true, true, false] ((((((Array.replicate 13 false).setIfInBounds 0 true).setIfInBounds 1 true).setIfInBounds 2 true).setIfInBounds 3 true).setIfInBounds 4 true) 5 = true := by kernel_rfl
theorem sb_139_15_6 : softB op_139_15 #[true, true, true, true, true, true, true, true, true, true, true, true, false] (((((((Array.replicate 13 false).setIfInBounds 0 true).setIfInBounds 1 true).setIfInBounds 2 true).setIfInBounds 3 true).setIfInBounds 4 true).setIfInBounds 5 true) 6 = true := by kernel_rfl
theorem sb_139_15_7 : softB op_139_15 #[true, true, true, true, true, true, true, true, true, true, true, true, false] ((((((((Array.replicate 13 false).setIfInBounds 0 true).setIfInBounds 1 true).setIfInBounds 2 true).setIfInBounds 3 true).setIfInBounds 4 true).setIfInBounds 5 true).setIfInBounds 6 true) 7 = true := by kernel_rfl
theorem sb_139_15_8 : softB op_139_15 #[true, true, true, true, true, true, true, true, true, true, true, true, false] (((((((((Array.replicate 13 false).setIfInBounds 0 true).setIfInBounds 1 true).setIfInBounds 2 true).setIfInBounds 3 true).setIfInBounds 4 true).setIfInBounds 5 true).setIfInBounds 6 true).setIfInBounds 7 true) 8 = true := by kernel_rfl
theorem sb_139_15_9 : softB op_139_15 #[true, true, true, true, true, true, true, true, true, true, true, true, false] ((((((((((Array.replicate 13 false).setIfInBounds 0 true).setIfInBounds 1 true).setIfInBounds 2 true).setIfInBounds 3 true).setIfInBounds 4 true).setIfInBounds 5 true).setIfInBounds 6 true).setIfInBounds 7 true).setIfInBounds 8 true) 9 = true := by kernel_rfl
theorem sb_139_15_10 : softB op_139_15 #[true, true, true, true, true, true, true, true, true, true, true, true, false] (((((((((((Array.replicate 13 false).setIfInBounds 0 true).setIfInBounds 1 true).setIfInBounds 2 true).setIfInBounds 3 true).setIfInBounds 4 true).setIfInBounds 5 true).setIfInBounds 6 true).setIfInBounds 7 true).setIfInBounds 8 true).setIfInBounds 9 true) 10 = true := by kernel_rfl
theorem sb_139_15_11 : softB op_139_15 #[true, true, true, true, true, true, true, true, true, true, true, true, false] ((((((((((((Array.replicate 13 false).setIfInBounds 0 true).setIfInBounds 1 true).setIfInBounds 2 true).setIfInBounds 3 true).setIfInBounds 4 true).setIfInBounds 5 true).setIfInBounds 6 true).setIfInBounds 7 true).setIfInBounds 8 true).setIfInBounds 9 true).setIfInBounds 10 true) 11 = true := by kernel_rfl
theorem sb_139_15_12 : hardB op_139_15 (((((((((((((Array.replicate 13 false).setIfInBounds 0 true).setIfInBounds 1 true).setIfInBounds 2 true).setIfInBounds 3 true).setIfInBounds 4 true).setIfInBounds 5 true).setIfInBounds 6 true).setIfInBounds 7 true).setIfInBounds 8 true).setIfInBounds 9 true).setIfInBounds 10 true).setIfInBounds 11 true) [12] = true := by kernel_rfl
theorem sb_139_15_13 : hardB op_139_15 ((((((((((((((Array.replicate 13 false).setIfInBounds 0 true).setIfInBounds 1 true).setIfInBounds 2 true).setIfInBounds 3 true).setIfInBounds 4 true).setIfInBounds 5 true).setIfInBounds 6 true).setIfInBounds 7 true).setIfInBounds 8 true).setIfInBounds 9 true).setIfInBounds 10 true).setIfInBounds 11 true).setIfInBounds 12 true) [] = true := by kernel_rfl
/- (*graph.Graph).SetBranch -/
def m139_w1 (n : Nat) (c3 : Int) (mm : Nat) : Int → Graph → Option (Int × Graph) := it2 (fun lp1 c5 z2 =>
cond (decide (c3 < c5)) (
Option.bind (ckA (wi (c5 - 1)) 4) fun _ =>
Option.bind (ckA c5 4) fun _ =>
nm ({ z2 with br := (upI z2.br c5 (z2.br (wi (c5 - 1)))) } : Graph) fun z4 =>
lp1 (wi (c5 - 1)) z4) (
some (c5, z2))) mm
def m139 (n : Nat) (g : Graph) (name : Str) (seq : Int) : Option (Int × Graph) :=
ob1 (m136 n name) fun c1 =>
cond (!c1) (
some (14, g)) (
ob1 (m211 n g seq) fun c2 =>
cond (decide (c2 = 0)) (
some (17, g)) (
ob2 (m218 n g name) fun c3 c4 =>
cond c4 (
Option.bind (ckA c3 4) fun _ =>
nm ({ g with br := (upI g.br c3 { (g.br c3) with id := c2 }) } : Graph) fun z1 =>
some (0, z1)) (
cond (decide ((4 : Int) ≤ g.nb)) (
some (8, g)) (
ob2 (m139_w1 n c3 n g.nb g) fun c6 z3 =>
Option.bind (ckA c3 4) fun _ =>
nm ({ z3 with br := (upI z3.br c3 ({ name := name, id := c2 } : Brn)) } : Graph) fun z5 =>
nm ({ z5 with nb := (wi (z5.nb + 1)) } : Graph) fun z6 =>
some (0, z6)))))
theorem t139 {n : Nat} {C : List Chunk} {rc1 : Int} {rz1 : Graph} {b1 : Nat} {g : Graph} {q1 : Option Addr} {name : Str} {seq : Int}   (hm : m139 n g name seq = some (rc1, rz1)) : Trip Tryz.prog 139 #[.pointer (some ⟨b1, 0, none⟩), .string ⟨(name : Str).toArray⟩, .int .i64 seq] ([[(b1, .cells (Graph.enc ((.pointer q1)) g).toArray 179 (0, 0))]] ++ [C]) (fun u S' => .int .i64 rc1 = u ∧ S' = [[(b1, .cells (Graph.enc ((.pointer q1)) rz1).toArray 179 (0, 0))]] ++ [C]) := by
  refine fn_entry (args := [.pointer (some ⟨b1, 0, none⟩), .string ⟨(name : Str).toArray⟩, .int .i64 seq]) Tryz.func139 rfl Tryz.ntmps139 rfl (fun w0 => ?_)
  refine c_seq ?_
  refine c_region ?_
  refine o_L (y_assign rfl) rfl rfl ?_
  refine o_nil0 rfl ?_
  refine c_seq ?_
  refine c_seq ?_
  refine c_region ?_
  refine o_T (y_move rfl) rfl ?_
  obtain ⟨c1, hx1, hm⟩ := bd1 hm
  refine o_callC en_136 rfl s_nil (t136 hx1) rfl (fun u1 S1 hR1 => ?_)
  obtain ⟨rfl, rfl⟩ := hR1
  refine o_rest ?_
  refine o_T (y_not rfl) rfl ?_
  refine o_nil1 13 rfl rfl ?_
  refine c_cond rfl (fun h1 => ?_) (fun h1 => ?_)
  · have hm := cd_t h1 hm
    refine c_seq ?_
    refine c_region ?_
    refine o_L (y_assign rfl) rfl rfl ?_
    refine o_nil0 rfl ?_
    refine c_ret ?_
    obtain ⟨rfl, rfl⟩ := pr2 hm
    refine fun aX wX heX hsX => ret1 Tryz.results139 heX rfl (s_take (s_take s_nil)) ?_
    exact ⟨rfl, rfl⟩
  · have hm := cd_f h1 hm
    refine c_skip ?_
    refine c_seq ?_
    refine c_region ?_
    refine o_T (y_move rfl) rfl ?_
    refine o_T (y_move rfl) rfl ?_
    obtain ⟨c2, hx2, hm⟩ := bd1 hm
    refine o_callC en_211 rfl (s_take s_nil) (t211 hx2) rfl (fun u2 S2 hR2 => ?_)
    obtain ⟨rfl, rfl⟩ := hR2
    refine o_rest ?_
    refine o_L (y_assign rfl) rfl rfl ?_
    refine o_nil0 rfl ?_
    refine c_seq ?_
    refine c_seq ?_
    refine c_region ?_
    refine o_T (y_move rfl) rfl ?_
    refine o_T (y_eql rfl rfl) rfl ?_
    refine o_nil1 18 rfl rfl ?_
    refine c_cond rfl (fun h2 => ?_) (fun h2 => ?_)
    · have hm := cd_t h2 hm
      refine c_seq ?_
      refine c_region ?_
      refine o_L (y_assign rfl) rfl rfl ?_
      refine o_nil0 rfl ?_
      refine c_ret ?_
      obtain ⟨rfl, rfl⟩ := pr2 hm
      refine fun aX wX heX hsX => ret1 Tryz.results139 heX rfl (s_take (s_take s_nil)) ?_
      exact ⟨rfl, rfl⟩
    · have hm := cd_f h2 hm
      refine c_skip ?_
      refine c_seq ?_
      refine c_region ?_
      refine o_T (y_move rfl) rfl ?_
      refine o_T (y_move rfl) rfl ?_
      obtain ⟨c3, c4, hx3, hm⟩ := bd2 hm
      refine o_callC en_218 rfl (s_take s_nil) (t218 hx3) rfl (fun u3 S3 hR3 => ?_)
      obtain ⟨rfl, rfl⟩ := hR3
      refine o_rest ?_
      refine o_T (y_move rfl) rfl ?_
      refine o_T (y_extract rfl rfl) rfl ?_
      refine o_T (y_extract rfl rfl) rfl ?_
      refine o_L (y_assign rfl) rfl rfl ?_
      refine o_L (y_assign rfl) rfl rfl ?_
      refine o_nil0 rfl ?_
      refine c_seq ?_
      refine c_seq ?_
      refine c_region ?_
      refine o_T (y_move rfl) rfl ?_
      refine o_nil1 25 rfl rfl ?_
      refine c_cond rfl (fun h3 => ?_) (fun h3 => ?_)
      · have hm := cd_t h3 hm
        refine c_seq ?_
        refine c_region ?_
        refine o_T (y_move rfl) rfl ?_
        refine o_T (y_move rfl) rfl ?_
        refine o_T (y_move rfl) rfl ?_
        refine o_T (y_nilck rfl) rfl ?_
        refine o_T (y_fa fl_179_4 rfl) rfl ?_
        obtain ⟨_, hx4, hm⟩ := bd hm
        have hx4 := ckA_some hx4
        refine o_T (y_ia ar_177 rfl rfl hx4.1 hx4.2) rfl ?_
        refine o_T (y_fa fl_176_1 rfl) rfl ?_
        obtain ⟨z1, hn1, hm⟩ := nm_s hm
        refine o_stN one_3 rfl rfl rfl (((Upd.z Graph.u_br).comp (encN_u Brn.len _ _ _ hx4.1 _ hx4.2)).comp Brn.u_id) r0 (show (Graph.enc ((.pointer q1)) z1) = _ from by subst hn1; rfl) ?_
        refine o_nil0 rfl ?_
        refine c_seq ?_
        refine c_region ?_
        refine o_L (y_assign rfl) rfl rfl ?_
        refine o_nil0 rfl ?_
        refine c_ret ?_
        obtain ⟨rfl, rfl⟩ := pr2 hm
        refine fun aX wX heX hsX => ret1 Tryz.results139 heX rfl (s_take (s_take s_nil)) ?_
        exact ⟨rfl, rfl⟩
      · have hm := cd_f h3 hm
        refine c_skip ?_
        refine c_seq ?_
        refine c_seq ?_
        refine c_region ?_
        refine o_T (y_move rfl) rfl ?_
        refine o_T (y_nilck rfl) rfl ?_
        refine o_T (y_fa fl_179_5 rfl) rfl ?_
        refine o_ld one_3 rfl m0 (At.got (At.refl.comp Graph.a_nb)) rfl ?_
        refine o_T (y_geq rfl rfl) rfl ?_
        refine o_nil1 37 rfl rfl ?_
        refine c_cond rfl (fun h4 => ?_) (fun h4 => ?_)
        · have hm := cd_t h4 hm
          refine c_seq ?_
          refine c_region ?_
          refine o_L (y_assign rfl) rfl rfl ?_
          refine o_nil0 rfl ?_
          refine c_ret ?_
          obtain ⟨rfl, rfl⟩ := pr2 hm
          refine fun aX wX heX hsX => ret1 Tryz.results139 heX rfl (s_take (s_take s_nil)) ?_
          exact ⟨rfl, rfl⟩
        · have hm := cd_f h4 hm
          refine c_skip ?_
          refine c_seq ?_
          refine c_seq ?_
          refine c_region ?_
          refine o_T (y_move rfl) rfl ?_
          refine o_T (y_nilck rfl) rfl ?_
          refine o_T (y_fa fl_179_5 rfl) rfl ?_
          refine o_ld one_3 rfl m0 (At.got (At.refl.comp Graph.a_nb)) rfl ?_
          refine o_L (y_assign rfl) rfl rfl ?_
          refine o_nil0 rfl ?_
          obtain ⟨c6, z3, hj1, hm⟩ := bd2 hm
          refine c_joinP (n := 1) (fun sh G => sh = [(10, .int .i64 c6)] ∧ G = [[(b1, .cells (Graph.enc ((.pointer q1)) z3).toArray 179 (0, 0))]]) (s_take (s_take s_nil)) (.s .z) (fun _ _ h => h) ?_ ?_
          · skip
            refine c_block ?_
            refine c_loopP (n := 1) (fun mm sh G => ∃ (c5 : Int), ∃ (z2 : Graph), sh = [(10, .int .i64 c5)] ∧ G = [[(b1, .cells (Graph.enc ((.pointer q1)) z2).toArray 179 (0, 0))]] ∧ m139_w1 n c3 mm c5 z2 = some (c6, z3)) n (s_take (s_take s_nil)) (.s .z) ⟨_, _, ⟨_, _, rfl, rfl, hj1⟩, ⟨rfl, trivial⟩, _, (s_take (s_take s_nil))⟩ ?_
            rintro mm sh G ⟨c5, z2, rfl, rfl, hm⟩
            obtain ⟨mm1, rfl, hm⟩ := it2_s hm
            refine c_seq ?_
            refine c_seq ?_
            refine c_region ?_
            refine o_T (y_move rfl) rfl ?_
            refine o_T (y_move rfl) rfl ?_
            refine o_T (y_gtr rfl rfl) rfl ?_
            refine o_nil1 44 rfl rfl ?_
            refine c_cond rfl (fun h5 => ?_) (fun h5 => ?_)
            · have hm := cd_t h5 hm
              refine c_skip ?_
              refine c_seq ?_
              refine c_block ?_
              refine c_draw #[true, true, true, true, true, true, true, true, true, true, true, true, false] rfl (n := 13) rfl ?_
              refine d_T 0 rfl sb_139_15_0 rfl (y_move rfl) rfl ?_
              refine d_T 1 rfl sb_139_15_1 rfl (y_move rfl) rfl ?_
              refine d_T 2 rfl sb_139_15_2 rfl (y_move rfl) rfl ?_
              refine d_T 3 rfl sb_139_15_3 rfl (y_move rfl) rfl ?_
              refine d_T 4 rfl sb_139_15_4 rfl (y_sub rfl rfl rfl) rfl ?_
              refine d_T 5 rfl sb_139_15_5 rfl (y_nilck rfl) rfl ?_
              refine d_T 6 rfl sb_139_15_6 rfl (y_fa fl_179_4 rfl) rfl ?_
              obtain ⟨_, hx5, hm⟩ := bd hm
              have hx5 := ckA_some hx5
              refine d_T 7 rfl sb_139_15_7 rfl (y_ia ar_177 rfl rfl hx5.1 hx5.2) rfl ?_
              refine d_lda 8 rfl sb_139_15_8 ag_176 rfl (fun x hx => hx) m0 (At.exs ((At.refl.comp Graph.a_br).comp (encN_a Brn.len _ _ hx5.1 _ hx5.2)) (Brn.len _)) (At.fits ((At.refl.comp Graph.a_br).comp (encN_a Brn.len _ _ hx5.1 _ hx5.2)) (Brn.len _)) rfl ?_
              refine d_T 9 rfl sb_139_15_9 rfl (y_nilck rfl) rfl ?_
              refine d_T 10 rfl sb_139_15_10 rfl (y_fa fl_179_4 rfl) rfl ?_
              obtain ⟨_, hx6, hm⟩ := bd hm
              have hx6 := ckA_some hx6
              refine d_T 11 rfl sb_139_15_11 rfl (y_ia ar_177 rfl rfl hx6.1 hx6.2) rfl ?_
              refine d_hard 12 rfl sb_139_15_12 ?_
              obtain ⟨z4, hn2, hm⟩ := nm_s hm
              refine o_stNA ag_176 rfl rfl (Brn.plain _) (Brn.len _) ((Upd.z Graph.u_br).comp (encN_u Brn.len _ _ _ hx6.1 _ hx6.2)) r0 (show (Graph.enc ((.pointer q1)) z4) = _ from by subst hn2; rfl) ?_
              refine o_stop (fun h => nomatch h) ?_
              refine d_nil0 sb_139_15_13 rfl ?_
              refine c_region ?_
              refine o_T (y_move rfl) rfl ?_
              refine o_T (y_sub rfl rfl rfl) rfl ?_
              refine o_L (y_assign rfl) rfl rfl ?_
              refine o_nil0 rfl ?_
              exact ⟨mm1, Nat.lt_succ_self _, _, _, ⟨_, _, rfl, rfl, hm⟩, ⟨rfl, trivial⟩, ⟨rfl, rfl⟩, _, (s_take (s_take s_nil))⟩
            · have hm := cd_f h5 hm
              refine c_exit ?_
              obtain ⟨rfl, rfl⟩ := pr2 hm
              exact ⟨_, _, ⟨rfl, rfl⟩, ⟨rfl, trivial⟩, ⟨rfl, rfl⟩, _, (s_take (s_take s_nil))⟩
          · rintro sh G ⟨rfl, rfl⟩
            refine c_seq ?_
            refine c_region ?_
            refine o_T (y_move rfl) rfl ?_
            refine o_T (y_move rfl) rfl ?_
            refine o_T (y_move rfl) rfl ?_
            refine o_T (y_move rfl) rfl ?_
            refine o_T (y_build st_176 rfl (fbU rfl Brn.u_name rfl rfl (fbU rfl Brn.u_id rfl rfl fbU0))) rfl ?_
            refine o_T (y_nilck rfl) rfl ?_
            refine o_T (y_fa fl_179_4 rfl) rfl ?_
            obtain ⟨_, hx7, hm⟩ := bd hm
            have hx7 := ckA_some hx7
            refine o_T (y_ia ar_177 rfl rfl hx7.1 hx7.2) rfl ?_
            obtain ⟨z5, hn3, hm⟩ := nm_s hm
            refine o_stNA ag_176 rfl rfl (Brn.plain _) (Brn.len _) ((Upd.z Graph.u_br).comp (encN_u Brn.len _ _ _ hx7.1 _ hx7.2)) r0 (show (Graph.enc ((.pointer q1)) z5) = _ from by subst hn3; rfl) ?_
            refine o_nil0 rfl ?_
            refine c_seq ?_
            refine c_region ?_
            refine o_T (y_move rfl) rfl ?_
            refine o_T (y_nilck rfl) rfl ?_
            refine o_T (y_fa fl_179_5 rfl) rfl ?_
            refine o_ld one_3 rfl m0 (At.got (At.refl.comp Graph.a_nb)) rfl ?_
            refine o_T (y_add rfl rfl rfl) rfl ?_
            refine o_T (y_nilck rfl) rfl ?_
            refine o_T (y_fa fl_179_5 rfl) rfl ?_
            obtain ⟨z6, hn4, hm⟩ := nm_s hm
            refine o_stN one_3 rfl rfl rfl (Upd.z Graph.u_nb) r0 (show (Graph.enc ((.pointer q1)) z6) = _ from by subst hn4; rfl) ?_
            refine o_nil0 rfl ?_
            refine c_seq ?_
            refine c_region ?_
            refine o_L (y_assign rfl) rfl rfl ?_
            refine o_nil0 rfl ?_
            refine c_ret ?_
            obtain ⟨rfl, rfl⟩ := pr2 hm
            refine fun aX wX heX hsX => ret1 Tryz.results139 heX rfl (s_take (s_take s_nil)) ?_
            exact ⟨rfl, rfl⟩
end Go.Proofs.Qxb6500350aGreat
