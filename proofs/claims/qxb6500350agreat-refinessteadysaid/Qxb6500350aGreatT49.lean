/- MADE BY PROGRAM (tools350/mir.py): mirror and walk. -/
import Derived.Test.Qxb6500350aGreatF2
import Derived.Test.Qxb6500350aGreatT115
set_option linter.unusedVariables false
set_option linter.unusedSimpArgs false
set_option maxRecDepth 20000
set_option maxHeartbeats 4000000
namespace Go.Proofs.Qxb6500350aGreat
open Go.Eng

def op_49_7 : Array Go.Oper := #[{ dst := some 26, op := Go.Op.move (Go.Operand.tmp 0), type := 33, pos := "work.go:76", after := #[], guard := none }, { dst := some 27, op := Go.Op.move (Go.Operand.tmp 7), type := 3, pos := "work.go:76", after := #[], guard := none }, { dst := some 28, op := Go.Op.move (Go.Operand.tmp 0), type := 33, pos := "work.go:76", after := #[], guard := none }, { dst := some 29, op := Go.Op.move (Go.Operand.tmp 7), type := 3, pos := "work.go:76", after := #[], guard := none }, { dst := some 30, op := Go.Op.binOp Go.BinOp.add 3 (Go.Operand.tmp 29) (Go.Operand.const (Go.Value.int Go.IntKind.i64 1)) 3, type := 3, pos := "work.go:76", after := #[{ on := 3, ground := Go.Ground.data }], guard := none }, { dst := some 31, op := Go.Op.nilCheck (Go.Operand.tmp 28), type := 0, pos := "work.go:76", after := #[{ on := 2, ground := Go.Ground.data }], guard := none }, { dst := some 32, op := Go.Op.fieldAddr 130 (Go.Operand.tmp 31) 3, type := 0, pos := "work.go:76", after := #[{ on := 5, ground := Go.Ground.data }], guard := none }, { dst := some 33, op := Go.Op.indexAddr 128 (Go.Operand.tmp 32) (Go.Operand.tmp 30), type := 0, pos := "work.go:76", after := #[{ on := 6, ground := Go.Ground.data }, { on := 4, ground := Go.Ground.data }], guard := none }, { dst := some 34, op := Go.Op.load 71 (Go.Operand.tmp 33), type := 71, pos := "work.go:76", after := #[{ on := 7, ground := Go.Ground.data }], guard := none }, { dst := some 35, op := Go.Op.nilCheck (Go.Operand.tmp 26), type := 0, pos := "work.go:76", after := #[{ on := 0, ground := Go.Ground.data }], guard := none }, { dst := some 36, op := Go.Op.fieldAddr 130 (Go.Operand.tmp 35) 3, type := 0, pos := "work.go:76", after := #[{ on := 9, ground := Go.Ground.data }], guard := none }, { dst := some 37, op := Go.Op.indexAddr 128 (Go.Operand.tmp 36) (Go.Operand.tmp 27), type := 0, pos := "work.go:76", after := #[{ on := 10, ground := Go.Ground.data }, { on := 1, ground := Go.Ground.data }, { on := 0, ground := Go.Ground.phase }, { on := 1, ground := Go.Ground.phase }, { on := 2, ground := Go.Ground.phase }, { on := 3, ground := Go.Ground.phase }, { on := 4, ground := Go.Ground.phase }, { on := 5, ground := Go.Ground.phase }, { on := 6, ground := Go.Ground.phase }, { on := 7, ground := Go.Ground.phase }, { on := 8, ground := Go.Ground.phase }], guard := none }, { dst := none, op := Go.Op.store 71 (Go.Operand.tmp 37) (Go.Operand.tmp 34), type := 0, pos := "work.go:76", after := #[{ on := 11, ground := Go.Ground.data }, { on := 8, ground := Go.Ground.data }, { on := 0, ground := Go.Ground.phase }, { on := 1, ground := Go.Ground.phase }, { on := 2, ground := Go.Ground.phase }, { on := 3, ground := Go.Ground.phase }, { on := 4, ground := Go.Ground.phase }, { on := 5, ground := Go.Ground.phase }, { on := 6, ground := Go.Ground.phase }, { on := 7, ground := Go.Ground.phase }, { on := 8, ground := Go.Ground.phase }], guard := none }]
def op_49_9 : Array Go.Oper := #[{ dst := some 45, op := Go.Op.move (Go.Operand.tmp 0), type := 33, pos := "work.go:79", after := #[], guard := none }, { dst := some 46, op := Go.Op.move (Go.Operand.tmp 0), type := 33, pos := "work.go:79", after := #[], guard := none }, { dst := some 47, op := Go.Op.nilCheck (Go.Operand.tmp 46), type := 0, pos := "work.go:79", after := #[{ on := 1, ground := Go.Ground.data }], guard := none }, { dst := some 48, op := Go.Op.fieldAddr 130 (Go.Operand.tmp 47) 4, type := 0, pos := "work.go:79", after := #[{ on := 2, ground := Go.Ground.data }], guard := none }, { dst := some 49, op := Go.Op.load 3 (Go.Operand.tmp 48), type := 3, pos := "work.go:79", after := #[{ on := 3, ground := Go.Ground.data }], guard := none }, { dst := some 50, op := Go.Op.build 71 #[], type := 71, pos := "work.go:79", after := #[], guard := none }, { dst := some 51, op := Go.Op.nilCheck (Go.Operand.tmp 45), type := 0, pos := "work.go:79", after := #[{ on := 0, ground := Go.Ground.data }], guard := none }, { dst := some 52, op := Go.Op.fieldAddr 130 (Go.Operand.tmp 51) 3, type := 0, pos := "work.go:79", after := #[{ on := 6, ground := Go.Ground.data }], guard := none }, { dst := some 53, op := Go.Op.indexAddr 128 (Go.Operand.tmp 52) (Go.Operand.tmp 49), type := 0, pos := "work.go:79", after := #[{ on := 7, ground := Go.Ground.data }, { on := 4, ground := Go.Ground.data }, { on := 0, ground := Go.Ground.phase }, { on := 1, ground := Go.Ground.phase }, { on := 2, ground := Go.Ground.phase }, { on := 3, ground := Go.Ground.phase }, { on := 4, ground := Go.Ground.phase }, { on := 5, ground := Go.Ground.phase }], guard := none }, { dst := none, op := Go.Op.store 71 (Go.Operand.tmp 53) (Go.Operand.tmp 50), type := 0, pos := "work.go:79", after := #[{ on := 8, ground := Go.Ground.data }, { on := 5, ground := Go.Ground.data }, { on := 0, ground := Go.Ground.phase }, { on := 1, ground := Go.Ground.phase }, { on := 2, ground := Go.Ground.phase }, { on := 3, ground := Go.Ground.phase }, { on := 4, ground := Go.Ground.phase }, { on := 5, ground := Go.Ground.phase }], guard := none }]
theorem sb_49_7_0 : softB op_49_7 #[true, true, true, true, true, true, true, true, true, true, true, true, false] (Array.replicate 13 false) 0 = true := by kernel_rfl
theorem sb_49_7_1 : softB op_49_7 #[true, true, true, true, true, true, true, true, true, true, true, true, false] ((Array.replicate 13 false).setIfInBounds 0 true) 1 = true := by kernel_rfl
theorem sb_49_7_2 : softB op_49_7 #[true, true, true, true, true, true, true, true, true, true, true, true, false] (((Array.replicate 13 false).setIfInBounds 0 true).setIfInBounds 1 true) 2 = true := by kernel_rfl
theorem sb_49_7_3 : softB op_49_7 #[true, true, true, true, true, true, true, true, true, true, true, true, false] ((((Array.replicate 13 false).setIfInBounds 0 true).setIfInBounds 1 true).setIfInBounds 2 true) 3 = true := by kernel_rfl
theorem sb_49_7_4 : softB op_49_7 #[true, true, true, true, true, true, true, true, true, true, true, true, false] (((((Array.replicate 13 false).setIfInBounds 0 true).setIfInBounds 1 true).setIfInBounds 2 true).setIfInBounds 3 true) 4 = true := by kernel_rfl
theorem sb_49_7_5 : softB op_49_7 #[true, true, true, true, true, true, true, true, true, true, true, true, false] ((((((Array.replicate 13 false).setIfInBounds 0 true).setIfInBounds 1 true).setIfInBounds 2 true).setIfInBounds 3 true).setIfInBounds 4 true) 5 = true := by kernel_rfl
theorem sb_49_7_6 : softB op_49_7 #[true, true, true, true, true, true, true, true, true, true, true, true, false] (((((((Array.replicate 13 false).setIfInBounds 0 true).setIfInBounds 1 true).setIfInBounds 2 true).setIfInBounds 3 true).setIfInBounds 4 true).setIfInBounds 5 true) 6 = true := by kernel_rfl
theorem sb_49_7_7 : softB op_49_7 #[true, true, true, true, true, true, true, true, true, true, true, true, false] ((((((((Array.replicate 13 false).setIfInBounds 0 true).setIfInBounds 1 true).setIfInBounds 2 true).setIfInBounds 3 true).setIfInBounds 4 true).setIfInBounds 5 true).setIfInBounds 6 true) 7 = true := by kernel_rfl
theorem sb_49_7_8 : softB op_49_7 #[true, true, true, true, true, true, true, true, true, true, true, true, false] (((((((((Array.replicate 13 false).setIfInBounds 0 true).setIfInBounds 1 true).setIfInBounds 2 true).setIfInBounds 3 true).setIfInBounds 4 true).setIfInBounds 5 true).setIfInBounds 6 true).setIfInBounds 7 true) 8 = true := by kernel_rfl
theorem sb_49_7_9 : softB op_49_7 #[true, true, true, true, true, true, true, true, true, true, true, true, false] ((((((((((Array.replicate 13 false).setIfInBounds 0 true).setIfInBounds 1 true).setIfInBounds 2 true).setIfInBounds 3 true).setIfInBounds 4 true).setIfInBounds 5 true).setIfInBounds 6 true).setIfInBounds 7 true).setIfInBounds 8 true) 9 = true := by kernel_rfl
theorem sb_49_7_10 : softB op_49_7 #[true, true, true, true, true, true, true, true, true, true, true, true, false] (((((((((((Array.replicate 13 false).setIfInBounds 0 true).setIfInBounds 1 true).setIfInBounds 2 true).setIfInBounds 3 true).setIfInBounds 4 true).setIfInBounds 5 true).setIfInBounds 6 true).setIfInBounds 7 true).setIfInBounds 8 true).setIfInBounds 9 true) 10 = true := by kernel_rfl
theorem sb_49_7_11 : softB op_49_7 #[true, true, true, true, true, true, true, true, true, true, true, true, false] ((((((((((((Array.replicate 13 false).setIfInBounds 0 true).setIfInBounds 1 true).setIfInBounds 2 true).setIfInBounds 3 true).setIfInBounds 4 true).setIfInBounds 5 true).setIfInBounds 6 true).setIfInBounds 7 true).setIfInBounds 8 true).setIfInBounds 9 true).setIfInBounds 10 true) 11 = true := by kernel_rfl
theorem sb_49_7_12 : hardB op_49_7 (((((((((((((Array.replicate 13 false).setIfInBounds 0 true).setIfInBounds 1 true).setIfInBounds 2 true).setIfInBounds 3 true).setIfInBounds 4 true).setIfInBounds 5 true).setIfInBounds 6 true).setIfInBounds 7 true).setIfInBounds 8 true).setIfInBounds 9 true).setIfInBounds 10 true).setIfInBounds 11 true) [12] = true := by kernel_rfl
theorem sb_49_7_13 : hardB op_49_7 ((((((((((((((Array.replicate 13 false).setIfInBounds 0 true).setIfInBounds 1 true).setIfInBounds 2 true).setIfInBounds 3 true).setIfInBounds 4 true).setIfInBounds 5 true).setIfInBounds 6 true).setIfInBounds 7 true).setIfInBounds 8 true).setIfInBounds 9 true).setIfInBounds 10 true).setIfInBounds 11 true).setIfInBounds 12 true) [] = true := by kernel_rfl
theorem sb_49_9_0 : softB op_49_9 #[true, true, true, true, true, true, true, true, true, false] (Array.replicate 10 false) 0 = true := by kernel_rfl
theorem sb_49_9_1 : softB op_49_9 #[true, true, true, true, true, true, true, true, true, false] ((Array.replicate 10 false).setIfInBounds 0 true) 1 = true := by kernel_rfl
theorem sb_49_9_2 : softB op_49_9 #[true, true, true, true, true, true, true, true, true, false] (((Array.replicate 10 false).setIfInBounds 0 true).setIfInBounds 1 true) 2 = true := by kernel_rfl
theorem sb_49_9_3 : softB op_49_9 #[true, true, true, true, true, true, true, true, true, false] ((((Array.replicate 10 false).setIfInBounds 0 true).setIfInBounds 1 true).setIfInBounds 2 true) 3 = true := by kernel_rfl
theorem sb_49_9_4 : softB op_49_9 #[true, true, true, true, true, true, true, true, true, false] (((((Array.replicate 10 false).setIfInBounds 0 true).setIfInBounds 1 true).setIfInBounds 2 true).setIfInBounds 3 true) 4 = true := by kernel_rfl
theorem sb_49_9_5 : softB op_49_9 #[true, true, true, true, true, true, true, true, true, false] ((((((Array.replicate 10 false).setIfInBounds 0 true).setIfInBounds 1 true).setIfInBounds 2 true).setIfInBounds 3 true).setIfInBounds 4 true) 5 = true := by kernel_rfl
theorem sb_49_9_6 : softB op_49_9 #[true, true, true, true, true, true, true, true, true, false] (((((((Array.replicate 10 false).setIfInBounds 0 true).setIfInBounds 1 true).setIfInBounds 2 true).setIfInBounds 3 true).setIfInBounds 4 true).setIfInBounds 5 true) 6 = true := by kernel_rfl
theorem sb_49_9_7 : softB op_49_9 #[true, true, true, true, true, true, true, true, true, false] ((((((((Array.replicate 10 false).setIfInBounds 0 true).setIfInBounds 1 true).setIfInBounds 2 true).setIfInBounds 3 true).setIfInBounds 4 true).setIfInBounds 5 true).setIfInBounds 6 true) 7 = true := by kernel_rfl
theorem sb_49_9_8 : softB op_49_9 #[true, true, true, true, true, true, true, true, true, false] (((((((((Array.replicate 10 false).setIfInBounds 0 true).setIfInBounds 1 true).setIfInBounds 2 true).setIfInBounds 3 true).setIfInBounds 4 true).setIfInBounds 5 true).setIfInBounds 6 true).setIfInBounds 7 true) 8 = true := by kernel_rfl
theorem sb_49_9_9 : hardB op_49_9 ((((((((((Array.replicate 10 false).setIfInBounds 0 true).setIfInBounds 1 true).setIfInBounds 2 true).setIfInBounds 3 true).setIfInBounds 4 true).setIfInBounds 5 true).setIfInBounds 6 true).setIfInBounds 7 true).setIfInBounds 8 true) [9] = true := by kernel_rfl
theorem sb_49_9_10 : hardB op_49_9 (((((((((((Array.replicate 10 false).setIfInBounds 0 true).setIfInBounds 1 true).setIfInBounds 2 true).setIfInBounds 3 true).setIfInBounds 4 true).setIfInBounds 5 true).setIfInBounds 6 true).setIfInBounds 7 true).setIfInBounds 8 true).setIfInBounds 9 true) [] = true := by kernel_rfl
/- (*repo.Repo).Remove -/
def m49_w1 (n : Nat) (mm : Nat) : Int → RepoR → Option (Int × RepoR) := it2 (fun lp1 c3 z1 =>
cond (decide ((wi (c3 + 1)) < z1.n)) (
Option.bind (ckA (wi (c3 + 1)) 8) fun _ =>
Option.bind (ckA c3 8) fun _ =>
nm ({ z1 with work := (upI z1.work c3 (z1.work (wi (c3 + 1)))) } : RepoR) fun z3 =>
lp1 (wi (c3 + 1)) z3) (
some (c3, z1))) mm
def m49 (n : Nat) (r : RepoR) (path : Str) : Option (Int × RepoR) :=
ob2 (m115 n r path) fun c1 c2 =>
cond (!c2) (
some (13, r)) (
ob2 (m49_w1 n n c1 r) fun c4 z2 =>
nm ({ z2 with n := (wi (z2.n - 1)) } : RepoR) fun z4 =>
Option.bind (ckA z4.n 8) fun _ =>
nm ({ z4 with work := (upI z4.work z4.n File.zero) } : RepoR) fun z5 =>
some (0, z5))
theorem t49 {n : Nat} {C : List Chunk} {rc1 : Int} {rz1 : RepoR} {b1 : Nat} {r : RepoR} {q1 : Option Addr} {q2 : Option Addr} {q3 : Option Addr} {path : Str}   (hm : m49 n r path = some (rc1, rz1)) : Trip Tryz.prog 49 #[.pointer (some ⟨b1, 0, none⟩), .string ⟨(path : Str).toArray⟩] ([[(b1, .cells (RepoR.enc ((.pointer q1)) ((.pointer q2)) ((.pointer q3)) r).toArray 130 (0, 0))]] ++ [C]) (fun u S' => .int .i64 rc1 = u ∧ S' = [[(b1, .cells (RepoR.enc ((.pointer q1)) ((.pointer q2)) ((.pointer q3)) rz1).toArray 130 (0, 0))]] ++ [C]) := by
  refine fn_entry (args := [.pointer (some ⟨b1, 0, none⟩), .string ⟨(path : Str).toArray⟩]) Tryz.func49 rfl Tryz.ntmps49 rfl (fun w0 => ?_)
  refine c_seq ?_
  refine c_region ?_
  refine o_L (y_assign rfl) rfl rfl ?_
  refine o_nil0 rfl ?_
  refine c_seq ?_
  refine c_region ?_
  refine o_T (y_move rfl) rfl ?_
  refine o_T (y_move rfl) rfl ?_
  obtain ⟨c1, c2, hx1, hm⟩ := bd2 hm
  refine o_callC en_115 rfl (s_take s_nil) (t115 hx1) rfl (fun u1 S1 hR1 => ?_)
  obtain ⟨rfl, rfl⟩ := hR1
  refine o_rest ?_
  refine o_T (y_move rfl) rfl ?_
  refine o_T (y_extract rfl rfl) rfl ?_
  refine o_T (y_extract rfl rfl) rfl ?_
  refine o_L (y_assign rfl) rfl rfl ?_
  refine o_L (y_assign rfl) rfl rfl ?_
  refine o_nil0 rfl ?_
  refine c_seq ?_
  refine c_seq ?_
  refine c_region ?_
  refine o_T (y_move rfl) rfl ?_
  refine o_T (y_not rfl) rfl ?_
  refine o_nil1 15 rfl rfl ?_
  refine c_cond rfl (fun h1 => ?_) (fun h1 => ?_)
  · have hm := cd_t h1 hm
    refine c_seq ?_
    refine c_region ?_
    refine o_L (y_assign rfl) rfl rfl ?_
    refine o_nil0 rfl ?_
    refine c_ret ?_
    obtain ⟨rfl, rfl⟩ := pr2 hm
    refine fun aX wX heX hsX => ret1 Tryz.results49 heX rfl (s_take (s_take s_nil)) ?_
    exact ⟨rfl, rfl⟩
  · have hm := cd_f h1 hm
    refine c_skip ?_
    refine c_seq ?_
    refine c_seq ?_
    refine c_region ?_
    refine o_T (y_move rfl) rfl ?_
    refine o_L (y_assign rfl) rfl rfl ?_
    refine o_nil0 rfl ?_
    obtain ⟨c4, z2, hj1, hm⟩ := bd2 hm
    refine c_joinP (n := 1) (fun sh G => sh = [(7, .int .i64 c4)] ∧ G = [[(b1, .cells (RepoR.enc ((.pointer q1)) ((.pointer q2)) ((.pointer q3)) z2).toArray 130 (0, 0))]]) (s_take (s_take s_nil)) (.s .z) (fun _ _ h => h) ?_ ?_
    · skip
      refine c_block ?_
      refine c_loopP (n := 1) (fun mm sh G => ∃ (c3 : Int), ∃ (z1 : RepoR), sh = [(7, .int .i64 c3)] ∧ G = [[(b1, .cells (RepoR.enc ((.pointer q1)) ((.pointer q2)) ((.pointer q3)) z1).toArray 130 (0, 0))]] ∧ m49_w1 n mm c3 z1 = some (c4, z2)) n (s_take (s_take s_nil)) (.s .z) ⟨_, _, ⟨_, _, rfl, rfl, hj1⟩, ⟨rfl, trivial⟩, _, (s_take (s_take s_nil))⟩ ?_
      rintro mm sh G ⟨c3, z1, rfl, rfl, hm⟩
      obtain ⟨mm1, rfl, hm⟩ := it2_s hm
      refine c_seq ?_
      refine c_seq ?_
      refine c_region ?_
      refine o_T (y_move rfl) rfl ?_
      refine o_T (y_add rfl rfl rfl) rfl ?_
      refine o_T (y_move rfl) rfl ?_
      refine o_T (y_nilck rfl) rfl ?_
      refine o_T (y_fa fl_130_4 rfl) rfl ?_
      refine o_ld one_3 rfl m0 (At.got (At.refl.comp RepoR.a_n)) rfl ?_
      refine o_T (y_lss rfl rfl) rfl ?_
      refine o_nil1 23 rfl rfl ?_
      refine c_cond rfl (fun h2 => ?_) (fun h2 => ?_)
      · have hm := cd_t h2 hm
        refine c_skip ?_
        refine c_seq ?_
        refine c_block ?_
        refine c_draw #[true, true, true, true, true, true, true, true, true, true, true, true, false] rfl (n := 13) rfl ?_
        refine d_T 0 rfl sb_49_7_0 rfl (y_move rfl) rfl ?_
        refine d_T 1 rfl sb_49_7_1 rfl (y_move rfl) rfl ?_
        refine d_T 2 rfl sb_49_7_2 rfl (y_move rfl) rfl ?_
        refine d_T 3 rfl sb_49_7_3 rfl (y_move rfl) rfl ?_
        refine d_T 4 rfl sb_49_7_4 rfl (y_add rfl rfl rfl) rfl ?_
        refine d_T 5 rfl sb_49_7_5 rfl (y_nilck rfl) rfl ?_
        refine d_T 6 rfl sb_49_7_6 rfl (y_fa fl_130_3 rfl) rfl ?_
        obtain ⟨_, hx2, hm⟩ := bd hm
        have hx2 := ckA_some hx2
        refine d_T 7 rfl sb_49_7_7 rfl (y_ia ar_128 rfl rfl hx2.1 hx2.2) rfl ?_
        refine d_lda 8 rfl sb_49_7_8 ag_71 rfl (fun x hx => hx) m0 (At.exs ((At.refl.comp RepoR.a_work).comp (encN_a File.len _ _ hx2.1 _ hx2.2)) (File.len _)) (At.fits ((At.refl.comp RepoR.a_work).comp (encN_a File.len _ _ hx2.1 _ hx2.2)) (File.len _)) rfl ?_
        refine d_T 9 rfl sb_49_7_9 rfl (y_nilck rfl) rfl ?_
        refine d_T 10 rfl sb_49_7_10 rfl (y_fa fl_130_3 rfl) rfl ?_
        obtain ⟨_, hx3, hm⟩ := bd hm
        have hx3 := ckA_some hx3
        refine d_T 11 rfl sb_49_7_11 rfl (y_ia ar_128 rfl rfl hx3.1 hx3.2) rfl ?_
        refine d_hard 12 rfl sb_49_7_12 ?_
        obtain ⟨z3, hn1, hm⟩ := nm_s hm
        refine o_stNA ag_71 rfl rfl (File.plain _) (File.len _) ((Upd.z RepoR.u_work).comp (encN_u File.len _ _ _ hx3.1 _ hx3.2)) r0 (show (RepoR.enc ((.pointer q1)) ((.pointer q2)) ((.pointer q3)) z3) = _ from by subst hn1; rfl) ?_
        refine o_stop (fun h => nomatch h) ?_
        refine d_nil0 sb_49_7_13 rfl ?_
        refine c_region ?_
        refine o_T (y_move rfl) rfl ?_
        refine o_T (y_add rfl rfl rfl) rfl ?_
        refine o_L (y_assign rfl) rfl rfl ?_
        refine o_nil0 rfl ?_
        exact ⟨mm1, Nat.lt_succ_self _, _, _, ⟨_, _, rfl, rfl, hm⟩, ⟨rfl, trivial⟩, ⟨rfl, rfl⟩, _, (s_take (s_take s_nil))⟩
      · have hm := cd_f h2 hm
        refine c_exit ?_
        obtain ⟨rfl, rfl⟩ := pr2 hm
        exact ⟨_, _, ⟨rfl, rfl⟩, ⟨rfl, trivial⟩, ⟨rfl, rfl⟩, _, (s_take (s_take s_nil))⟩
    · rintro sh G ⟨rfl, rfl⟩
      refine c_seq ?_
      refine c_region ?_
      refine o_T (y_move rfl) rfl ?_
      refine o_T (y_nilck rfl) rfl ?_
      refine o_T (y_fa fl_130_4 rfl) rfl ?_
      refine o_ld one_3 rfl m0 (At.got (At.refl.comp RepoR.a_n)) rfl ?_
      refine o_T (y_sub rfl rfl rfl) rfl ?_
      refine o_T (y_nilck rfl) rfl ?_
      refine o_T (y_fa fl_130_4 rfl) rfl ?_
      obtain ⟨z4, hn2, hm⟩ := nm_s hm
      refine o_stN one_3 rfl rfl rfl (Upd.z RepoR.u_n) r0 (show (RepoR.enc ((.pointer q1)) ((.pointer q2)) ((.pointer q3)) z4) = _ from by subst hn2; rfl) ?_
      refine o_nil0 rfl ?_
      refine c_seq ?_
      refine c_draw #[true, true, true, true, true, true, true, true, true, false] rfl (n := 10) rfl ?_
      refine d_T 0 rfl sb_49_9_0 rfl (y_move rfl) rfl ?_
      refine d_T 1 rfl sb_49_9_1 rfl (y_move rfl) rfl ?_
      refine d_T 2 rfl sb_49_9_2 rfl (y_nilck rfl) rfl ?_
      refine d_T 3 rfl sb_49_9_3 rfl (y_fa fl_130_4 rfl) rfl ?_
      refine d_ld 4 rfl sb_49_9_4 one_3 rfl (fun x hx => hx) m0 (At.got (At.refl.comp RepoR.a_n)) rfl ?_
      refine d_T 5 rfl sb_49_9_5 rfl (y_build st_71 rfl fbU0) rfl ?_
      refine d_T 6 rfl sb_49_9_6 rfl (y_nilck rfl) rfl ?_
      refine d_T 7 rfl sb_49_9_7 rfl (y_fa fl_130_3 rfl) rfl ?_
      obtain ⟨_, hx4, hm⟩ := bd hm
      have hx4 := ckA_some hx4
      refine d_T 8 rfl sb_49_9_8 rfl (y_ia ar_128 rfl rfl hx4.1 hx4.2) rfl ?_
      refine d_hard 9 rfl sb_49_9_9 ?_
      obtain ⟨z5, hn3, hm⟩ := nm_s hm
      refine o_stNA ag_71 rfl rfl (File.plain _) (File.len _) ((Upd.z RepoR.u_work).comp (encN_u File.len _ _ _ hx4.1 _ hx4.2)) r0 (show (RepoR.enc ((.pointer q1)) ((.pointer q2)) ((.pointer q3)) z5) = _ from by subst hn3; rfl) ?_
      refine o_stop (fun h => nomatch h) ?_
      refine d_nil0 sb_49_9_10 rfl ?_
      refine c_seq ?_
      refine c_region ?_
      refine o_L (y_assign rfl) rfl rfl ?_
      refine o_nil0 rfl ?_
      refine c_ret ?_
      obtain ⟨rfl, rfl⟩ := pr2 hm
      refine fun aX wX heX hsX => ret1 Tryz.results49 heX rfl (s_take (s_take s_nil)) ?_
      exact ⟨rfl, rfl⟩
end Go.Proofs.Qxb6500350aGreat
