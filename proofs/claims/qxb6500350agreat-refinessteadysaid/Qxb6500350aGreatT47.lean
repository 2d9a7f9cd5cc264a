/- MADE BY PROGRAM (tools350/mir.py): mirror and walk. -/
import Derived.Test.Qxb6500350aGreatF2
import Derived.Test.Qxb6500350aGreatT113
import Derived.Test.Qxb6500350aGreatT114
import Derived.Test.Qxb6500350aGreatT115
set_option linter.unusedVariables false
set_option linter.unusedSimpArgs false
set_option maxRecDepth 20000
set_option maxHeartbeats 4000000
namespace Go.Proofs.Qxb6500350aGreat
open Go.Eng

def op_47_17 : Array Go.Oper := #[{ dst := some 56, op := Go.Op.move (Go.Operand.tmp 0), type := 33, pos := "work.go:61", after := #[], guard := none }, { dst := some 57, op := Go.Op.move (Go.Operand.tmp 10), type := 3, pos := "work.go:61", after := #[], guard := none }, { dst := some 58, op := Go.Op.move (Go.Operand.tmp 0), type := 33, pos := "work.go:61", after := #[], guard := none }, { dst := some 59, op := Go.Op.move (Go.Operand.tmp 10), type := 3, pos := "work.go:61", after := #[], guard := none }, { dst := some 60, op := Go.Op.binOp Go.BinOp.sub 3 (Go.Operand.tmp 59) (Go.Operand.const (Go.Value.int Go.IntKind.i64 1)) 3, type := 3, pos := "work.go:61", after := #[{ on := 3, ground := Go.Ground.data }], guard := none }, { dst := some 61, op := Go.Op.nilCheck (Go.Operand.tmp 58), type := 0, pos := "work.go:61", after := #[{ on := 2, ground := Go.Ground.data }], guard := none }, { dst := some 62, op := Go.Op.fieldAddr 130 (Go.Operand.tmp 61) 3, type := 0, pos := "work.go:61", after := #[{ on := 5, ground := Go.Ground.data }], guard := none }, { dst := some 63, op := Go.Op.indexAddr 128 (Go.Operand.tmp 62) (Go.Operand.tmp 60), type := 0, pos := "work.go:61", after := #[{ on := 6, ground := Go.Ground.data }, { on := 4, ground := Go.Ground.data }], guard := none }, { dst := some 64, op := Go.Op.load 71 (Go.Operand.tmp 63), type := 71, pos := "work.go:61", after := #[{ on := 7, ground := Go.Ground.data }], guard := none }, { dst := some 65, op := Go.Op.nilCheck (Go.Operand.tmp 56), type := 0, pos := "work.go:61", after := #[{ on := 0, ground := Go.Ground.data }], guard := none }, { dst := some 66, op := Go.Op.fieldAddr 130 (Go.Operand.tmp 65) 3, type := 0, pos := "work.go:61", after := #[{ on := 9, ground := Go.Ground.data }], guard := none }, { dst := some 67, op := Go.Op.indexAddr 128 (Go.Operand.tmp 66) (Go.Operand.tmp 57), type := 0, pos := "work.go:61", after := #[{ on := 10, ground := Go.Ground.data }, { on := 1, ground := Go.Ground.data }, { on := 0, ground := Go.Ground.phase }, { on := 1, ground := Go.Ground.phase }, { on := 2, ground := Go.Ground.phase }, { on := 3, ground := Go.Ground.phase }, { on := 4, ground := Go.Ground.phase }, { on := 5, ground := Go.Ground.phase }, { on := 6, ground := Go.Ground.phase }, { on := 7, ground := Go.Ground.phase }, { on := 8, ground := Go.Ground.phase }], guard := none }, { dst := none, op := Go.Op.store 71 (Go.Operand.tmp 67) (Go.Operand.tmp 64), type := 0, pos := "work.go:61", after := #[{ on := 11, ground := Go.Ground.data }, { on := 8, ground := Go.Ground.data }, { on := 0, ground := Go.Ground.phase }, { on := 1, ground := Go.Ground.phase }, { on := 2, ground := Go.Ground.phase }, { on := 3, ground := Go.Ground.phase }, { on := 4, ground := Go.Ground.phase }, { on := 5, ground := Go.Ground.phase }, { on := 6, ground := Go.Ground.phase }, { on := 7, ground := Go.Ground.phase }, { on := 8, ground := Go.Ground.phase }], guard := none }]
theorem sb_47_17_0 : softB op_47_17 #[true, true, true, true, true, true, true, true, true, true, true, true, false] (Array.replicate 13 false) 0 = true := by kernel_rfl
theorem sb_47_17_1 : softB op_47_17 #[true, true, true, true, true, true, true, true, true, true, true, true, false] ((Array.replicate 13 false).setIfInBounds 0 true) 1 = true := by kernel_rfl
theorem sb_47_17_2 : softB op_47_17 #[true, true, true, true, true, true, true, true, true, true, true, true, false] (((Array.replicate 13 false).setIfInBounds 0 true).setIfInBounds 1 true) 2 = true := by kernel_rfl
theorem sb_47_17_3 : softB op_47_17 #[true, true, true, true, true, true, true, true, true, true, true, true, false] ((((Array.replicate 13 false).setIfInBounds 0 true).setIfInBounds 1 true).setIfInBounds 2 true) 3 = true := by kernel_rfl
theorem sb_47_17_4 : softB op_47_17 #[true, true, true, true, true, true, true, true, true, true, true, true, false] (((((Array.replicate 13 false).setIfInBounds 0 true).setIfInBounds 1 true).setIfInBounds 2 true).setIfInBounds 3 true) 4 = true := by kernel_rfl
theorem sb_47_17_5 : softB op_47_17 #[true, true, true, true, true, true, true, true, true, true, true, true, false] ((((((Array.replicate 13 false).setIfInBounds 0 true).setIfInBounds 1 true).setIfInBounds 2 true).setIfInBounds 3 true).setIfInBounds 4 true) 5 = true := by kernel_rfl
theorem sb_47_17_6 : softB op_47_17 #[true, true, true, true, true, true, true, true, true, true, true, true, false] (((((((Array.replicate 13 false).setIfInBounds 0 true).setIfInBounds 1 true).setIfInBounds 2 true).setIfInBounds 3 true).setIfInBounds 4 true).setIfInBounds 5 true) 6 = true := by kernel_rfl
theorem sb_47_17_7 : softB op_47_17 #[true, true, true, true, true, true, true, true, true, true, true, true, false] ((((((((Array.replicate 13 false).setIfInBounds 0 true).setIfInBounds 1 true).setIfInBounds 2 true).setIfInBounds 3 true).setIfInBounds 4 true).setIfInBounds 5 true).setIfInBounds 6 true) 7 = true := by kernel_rfl
theorem sb_47_17_8 : softB op_47_17 #[true, true, true, true, true, true, true, true, true, true, true, true, false] (((((((((Array.replicate 13 false).setIfInBounds 0 true).setIfInBounds 1 true).setIfInBounds 2 true).setIfInBounds 3 true).setIfInBounds 4 true).setIfInBounds 5 true).setIfInBounds 6 true).setIfInBounds 7 true) 8 = true := by kernel_rfl
theorem sb_47_17_9 : softB op_47_17 #[true, true, true, true, true, true, true, true, true, true, true, true, false] ((((((((((Array.replicate 13 false).setIfInBounds 0 true).setIfInBounds 1 true).setIfInBounds 2 true).setIfInBounds 3 true).setIfInBounds 4 true).setIfInBounds 5 true).setIfInBounds 6 true).setIfInBounds 7 true).setIfInBounds 8 true) 9 = true := by kernel_rfl
theorem sb_47_17_10 : softB op_47_17 #[true, true, true, true, true, true, true, true, true, true, true, true, false] (((((((((((Array.replicate 13 false).setIfInBounds 0 true).setIfInBounds 1 true).setIfInBounds 2 true).setIfInBounds 3 true).setIfInBounds 4 true).setIfInBounds 5 true).setIfInBounds 6 true).setIfInBounds 7 true).setIfInBounds 8 true).setIfInBounds 9 true) 10 = true := by kernel_rfl
theorem sb_47_17_11 : softB op_47_17 #[true, true, true, true, true, true, true, true, true, true, true, true, false] ((((((((((((Array.replicate 13 false).setIfInBounds 0 true).setIfInBounds 1 true).setIfInBounds 2 true).setIfInBounds 3 true).setIfInBounds 4 true).setIfInBounds 5 true).setIfInBounds 6 true).setIfInBounds 7 true).setIfInBounds 8 true).setIfInBounds 9 true).setIfInBounds 10 true) 11 = true := by kernel_rfl
theorem sb_47_17_12 : hardB op_47_17 (((((((((((((Array.replicate 13 false).setIfInBounds 0 true).setIfInBounds 1 true).setIfInBounds 2 true).setIfInBounds 3 true).setIfInBounds 4 true).setIfInBounds 5 true).setIfInBounds 6 true).setIfInBounds 7 true).setIfInBounds 8 true).setIfInBounds 9 true).setIfInBounds 10 true).setIfInBounds 11 true) [12] = true := by kernel_rfl
theorem sb_47_17_13 : hardB op_47_17 ((((((((((((((Array.replicate 13 false).setIfInBounds 0 true).setIfInBounds 1 true).setIfInBounds 2 true).setIfInBounds 3 true).setIfInBounds 4 true).setIfInBounds 5 true).setIfInBounds 6 true).setIfInBounds 7 true).setIfInBounds 8 true).setIfInBounds 9 true).setIfInBounds 10 true).setIfInBounds 11 true).setIfInBounds 12 true) [] = true := by kernel_rfl
/- (*repo.Repo).Write -/
def m47_w1 (n : Nat) (r : RepoR) (path : Str) (mm : Nat) : Int → Option (Flow (Int × RepoR) (Int)) := it1 (fun lp1 c2 =>
cond (decide (c2 < r.n)) (
Option.bind (ckA c2 8) fun _ =>
ob1 (m114 n ((r.work c2).path) path) fun c4 =>
cond c4 (
Option.bind (some (12, r)) fun q4 => some (.ret q4)) (
lp1 (wi (c2 + 1)))) (
some (.nx c2))) mm
def m47_w2 (n : Nat) (c5 : Int) (mm : Nat) : Int → RepoR → Option (Int × RepoR) := it2 (fun lp2 c7 z1 =>
cond (decide (c5 < c7)) (
Option.bind (ckA (wi (c7 - 1)) 8) fun _ =>
Option.bind (ckA c7 8) fun _ =>
nm ({ z1 with work := (upI z1.work c7 (z1.work (wi (c7 - 1)))) } : RepoR) fun z3 =>
lp2 (wi (c7 - 1)) z3) (
some (c7, z1))) mm
def m47 (n : Nat) (r : RepoR) (path : Str) (data : Str) : Option (Int × RepoR) :=
ob1 (m113 n path) fun c1 =>
cond (!c1) (
some (9, r)) (
cond (decide ((180 : Int) < (data.length : Int))) (
some (4, r)) (
flow (m47_w1 n r path n 0) some (un1 fun c3 =>
ob2 (m115 n r path) fun c5 c6 =>
cond (!c6) (
cond (decide ((8 : Int) ≤ r.n)) (
some (8, r)) (
ob2 (m47_w2 n c5 n r.n r) fun c8 z2 =>
nm ({ z2 with n := (wi (z2.n + 1)) } : RepoR) fun z4 =>
Option.bind (ckA c5 8) fun _ =>
nm ({ z4 with work := (upI z4.work c5 ({ File.zero with path := path, data := data })) } : RepoR) fun z5 =>
some (0, z5))) (
Option.bind (ckA c5 8) fun _ =>
nm ({ r with work := (upI r.work c5 ({ File.zero with path := path, data := data })) } : RepoR) fun z6 =>
some (0, z6)))))
theorem t47 {n : Nat} {C : List Chunk} {rc1 : Int} {rz1 : RepoR} {b1 : Nat} {r : RepoR} {q1 : Option Addr} {q2 : Option Addr} {q3 : Option Addr} {path : Str} {data : Str}   (hm : m47 n r path data = some (rc1, rz1)) : Trip Tryz.prog 47 #[.pointer (some ⟨b1, 0, none⟩), .string ⟨(path : Str).toArray⟩, .string ⟨(data : Str).toArray⟩] ([[(b1, .cells (RepoR.enc ((.pointer q1)) ((.pointer q2)) ((.pointer q3)) r).toArray 130 (0, 0))]] ++ [C]) (fun u S' => .int .i64 rc1 = u ∧ S' = [[(b1, .cells (RepoR.enc ((.pointer q1)) ((.pointer q2)) ((.pointer q3)) rz1).toArray 130 (0, 0))]] ++ [C]) := by
  refine fn_entry (args := [.pointer (some ⟨b1, 0, none⟩), .string ⟨(path : Str).toArray⟩, .string ⟨(data : Str).toArray⟩]) Tryz.func47 rfl Tryz.ntmps47 rfl (fun w0 => ?_)
  refine c_seq ?_
  refine c_region ?_
  refine o_L (y_assign rfl) rfl rfl ?_
  refine o_nil0 rfl ?_
  refine c_seq ?_
  refine c_seq ?_
  refine c_region ?_
  refine o_T (y_move rfl) rfl ?_
  obtain ⟨c1, hx1, hm⟩ := bd1 hm
  refine o_callC en_113 rfl s_nil (t113 hx1) rfl (fun u1 S1 hR1 => ?_)
  obtain ⟨rfl, rfl⟩ := hR1
  refine o_rest ?_
  refine o_T (y_not rfl) rfl ?_
  refine o_nil1 13 rfl rfl ?_
  refine c_cond rfl (fun h1 => ?_) (fun h1 => ?_)
  · have hm := cd_t h1 hm
    refine c_seq ?_
    refine c_region ?_
    refine o_L (y_assign rfl) rfl rfl ?_
    refine o_nil0 rfl ?_
    refine c_ret ?_
    obtain ⟨rfl, rfl⟩ := pr2 hm
    refine fun aX wX heX hsX => ret1 Tryz.results47 heX rfl (s_take (s_take s_nil)) ?_
    exact ⟨rfl, rfl⟩
  · have hm := cd_f h1 hm
    refine c_skip ?_
    refine c_seq ?_
    refine c_seq ?_
    refine c_region ?_
    refine o_T (y_move rfl) rfl ?_
    refine o_T (y_slen Tryz.underlying9 rfl) rfl ?_
    refine o_T (y_gtr rfl rfl) rfl ?_
    refine o_nil1 16 rfl rfl ?_
    refine c_cond rfl (fun h2 => ?_) (fun h2 => ?_)
    · have hm := cd_t h2 hm
      refine c_seq ?_
      refine c_region ?_
      refine o_L (y_assign rfl) rfl rfl ?_
      refine o_nil0 rfl ?_
      refine c_ret ?_
      obtain ⟨rfl, rfl⟩ := pr2 hm
      refine fun aX wX heX hsX => ret1 Tryz.results47 heX rfl (s_take (s_take s_nil)) ?_
      exact ⟨rfl, rfl⟩
    · have hm := cd_f h2 hm
      refine c_skip ?_
      refine c_seq ?_
      refine c_seq ?_
      refine c_region ?_
      refine o_L (y_assign rfl) rfl rfl ?_
      refine o_nil0 rfl ?_
      obtain ⟨f1, F1, hF1, hj1, hF2⟩ := fl2 hm
      refine c_joinP (n := 0) (fun sh G => ∃ (c3 : Int), sh = [(7, .int .i64 c3)] ∧ G = [] ∧ F1 c3 = some (rc1, rz1)) (s_take (s_take s_nil)) .z (fun _ _ h => h) ?_ ?_
      · skip
        refine c_block ?_
        refine c_loopP (n := 0) (fun mm sh G => ∃ (c2 : Int), sh = [(7, .int .i64 c2)] ∧ G = [] ∧ m47_w1 n r path mm c2 = some f1) n (s_take (s_take s_nil)) .z ⟨_, _, ⟨_, rfl, rfl, hj1⟩, ⟨rfl, trivial⟩, _, (s_take (s_take s_nil))⟩ ?_
        rintro mm sh G ⟨c2, rfl, rfl, hm⟩
        obtain ⟨mm1, rfl, hm⟩ := it1_s hm
        refine c_seq ?_
        refine c_seq ?_
        refine c_region ?_
        refine o_T (y_move rfl) rfl ?_
        refine o_T (y_move rfl) rfl ?_
        refine o_T (y_nilck rfl) rfl ?_
        refine o_T (y_fa fl_130_4 rfl) rfl ?_
        refine o_ld one_3 rfl m0 (At.got (At.refl.comp RepoR.a_n)) rfl ?_
        refine o_T (y_lss rfl rfl) rfl ?_
        refine o_nil1 22 rfl rfl ?_
        refine c_cond rfl (fun h3 => ?_) (fun h3 => ?_)
        · have hm := cd_t h3 hm
          refine c_skip ?_
          refine c_seq ?_
          refine c_block ?_
          refine c_seq ?_
          refine c_region ?_
          refine o_T (y_move rfl) rfl ?_
          refine o_T (y_move rfl) rfl ?_
          refine o_T (y_nilck rfl) rfl ?_
          refine o_T (y_fa fl_130_3 rfl) rfl ?_
          obtain ⟨_, hx2, hm⟩ := bd hm
          have hx2 := ckA_some hx2
          refine o_T (y_ia ar_128 rfl rfl hx2.1 hx2.2) rfl ?_
          refine o_T (y_fa fl_71_0 rfl) rfl ?_
          refine o_ld one_9 rfl m0 (At.got (((At.refl.comp RepoR.a_work).comp (encN_a File.len _ _ hx2.1 _ hx2.2)).comp File.a_path)) rfl ?_
          refine o_T (y_move rfl) rfl ?_
          obtain ⟨c4, hx3, hm⟩ := bd1 hm
          refine o_callC en_114 rfl s_nil (t114 hx3) rfl (fun u2 S2 hR2 => ?_)
          obtain ⟨rfl, rfl⟩ := hR2
          refine o_rest ?_
          refine o_nil1 33 rfl rfl ?_
          refine c_cond rfl (fun h4 => ?_) (fun h4 => ?_)
          · have hm := cd_t h4 hm
            refine c_seq ?_
            refine c_region ?_
            refine o_L (y_assign rfl) rfl rfl ?_
            refine o_nil0 rfl ?_
            refine c_ret ?_
            obtain ⟨q4, hq1, hm⟩ := bd hm
            have hm := fl_ret hm hF2
            have hm := hq1.trans hm
            obtain ⟨rfl, rfl⟩ := pr2 hm
            refine fun aX wX heX hsX => ret1 Tryz.results47 heX rfl (s_take (s_take s_nil)) ?_
            exact ⟨rfl, rfl⟩
          · have hm := cd_f h4 hm
            refine c_skip ?_
            refine c_region ?_
            refine o_T (y_move rfl) rfl ?_
            refine o_T (y_add rfl rfl rfl) rfl ?_
            refine o_L (y_assign rfl) rfl rfl ?_
            refine o_nil0 rfl ?_
            exact ⟨mm1, Nat.lt_succ_self _, _, _, ⟨_, rfl, rfl, hm⟩, ⟨rfl, trivial⟩, ⟨rfl, rfl⟩, _, (s_take (s_take s_nil))⟩
        · have hm := cd_f h3 hm
          refine c_exit ?_
          have hm := fl_nx hm hF2
          exact ⟨_, _, ⟨_, rfl, rfl, hm⟩, ⟨rfl, trivial⟩, ⟨rfl, rfl⟩, _, (s_take (s_take s_nil))⟩
      · rintro sh G ⟨c3, rfl, rfl, hm⟩
        subst hF1
        refine c_seq ?_
        refine c_region ?_
        refine o_T (y_move rfl) rfl ?_
        refine o_T (y_move rfl) rfl ?_
        obtain ⟨c5, c6, hx4, hm⟩ := bd2 hm
        refine o_callC en_115 rfl (s_take s_nil) (t115 hx4) rfl (fun u3 S3 hR3 => ?_)
        obtain ⟨rfl, rfl⟩ := hR3
        refine o_rest ?_
        refine o_T (y_move rfl) rfl ?_
        refine o_T (y_extract rfl rfl) rfl ?_
        refine o_T (y_extract rfl rfl) rfl ?_
        refine o_L (y_assign rfl) rfl rfl ?_
        refine o_L (y_assign rfl) rfl rfl ?_
        refine o_nil0 rfl ?_
        refine c_seq ?_
        refine c_seq ?_
        refine c_region ?_
        refine o_T (y_move rfl) rfl ?_
        refine o_T (y_not rfl) rfl ?_
        refine o_nil1 41 rfl rfl ?_
        refine c_cond rfl (fun h5 => ?_) (fun h5 => ?_)
        · have hm := cd_t h5 hm
          refine c_seq ?_
          refine c_seq ?_
          refine c_region ?_
          refine o_T (y_move rfl) rfl ?_
          refine o_T (y_nilck rfl) rfl ?_
          refine o_T (y_fa fl_130_4 rfl) rfl ?_
          refine o_ld one_3 rfl m0 (At.got (At.refl.comp RepoR.a_n)) rfl ?_
          refine o_T (y_geq rfl rfl) rfl ?_
          refine o_nil1 46 rfl rfl ?_
          refine c_cond rfl (fun h6 => ?_) (fun h6 => ?_)
          · have hm := cd_t h6 hm
            refine c_seq ?_
            refine c_region ?_
            refine o_L (y_assign rfl) rfl rfl ?_
            refine o_nil0 rfl ?_
            refine c_ret ?_
            obtain ⟨rfl, rfl⟩ := pr2 hm
            refine fun aX wX heX hsX => ret1 Tryz.results47 heX rfl (s_take (s_take s_nil)) ?_
            exact ⟨rfl, rfl⟩
          · have hm := cd_f h6 hm
            refine c_skip ?_
            refine c_seq ?_
            refine c_seq ?_
            refine c_region ?_
            refine o_T (y_move rfl) rfl ?_
            refine o_T (y_nilck rfl) rfl ?_
            refine o_T (y_fa fl_130_4 rfl) rfl ?_
            refine o_ld one_3 rfl m0 (At.got (At.refl.comp RepoR.a_n)) rfl ?_
            refine o_L (y_assign rfl) rfl rfl ?_
            refine o_nil0 rfl ?_
            obtain ⟨c8, z2, hj2, hm⟩ := bd2 hm
            refine c_joinP (n := 1) (fun sh G => sh = [(10, .int .i64 c8)] ∧ G = [[(b1, .cells (RepoR.enc ((.pointer q1)) ((.pointer q2)) ((.pointer q3)) z2).toArray 130 (0, 0))]]) (s_take (s_take s_nil)) (.s .z) (fun _ _ h => h) ?_ ?_
            · skip
              refine c_block ?_
              refine c_loopP (n := 1) (fun mm sh G => ∃ (c7 : Int), ∃ (z1 : RepoR), sh = [(10, .int .i64 c7)] ∧ G = [[(b1, .cells (RepoR.enc ((.pointer q1)) ((.pointer q2)) ((.pointer q3)) z1).toArray 130 (0, 0))]] ∧ m47_w2 n c5 mm c7 z1 = some (c8, z2)) n (s_take (s_take s_nil)) (.s .z) ⟨_, _, ⟨_, _, rfl, rfl, hj2⟩, ⟨rfl, trivial⟩, _, (s_take (s_take s_nil))⟩ ?_
              rintro mm sh G ⟨c7, z1, rfl, rfl, hm⟩
              obtain ⟨mm2, rfl, hm⟩ := it2_s hm
              refine c_seq ?_
              refine c_seq ?_
              refine c_region ?_
              refine o_T (y_move rfl) rfl ?_
              refine o_T (y_move rfl) rfl ?_
              refine o_T (y_gtr rfl rfl) rfl ?_
              refine o_nil1 53 rfl rfl ?_
              refine c_cond rfl (fun h7 => ?_) (fun h7 => ?_)
              · have hm := cd_t h7 hm
                refine c_skip ?_
                refine c_seq ?_
                refine c_block ?_
                refine c_draw #[true, true, true, true, true, true, true, true, true, true, true, true, false] rfl (n := 13) rfl ?_
                refine d_T 0 rfl sb_47_17_0 rfl (y_move rfl) rfl ?_
                refine d_T 1 rfl sb_47_17_1 rfl (y_move rfl) rfl ?_
                refine d_T 2 rfl sb_47_17_2 rfl (y_move rfl) rfl ?_
                refine d_T 3 rfl sb_47_17_3 rfl (y_move rfl) rfl ?_
                refine d_T 4 rfl sb_47_17_4 rfl (y_sub rfl rfl rfl) rfl ?_
                refine d_T 5 rfl sb_47_17_5 rfl (y_nilck rfl) rfl ?_
                refine d_T 6 rfl sb_47_17_6 rfl (y_fa fl_130_3 rfl) rfl ?_
                obtain ⟨_, hx5, hm⟩ := bd hm
                have hx5 := ckA_some hx5
                refine d_T 7 rfl sb_47_17_7 rfl (y_ia ar_128 rfl rfl hx5.1 hx5.2) rfl ?_
                refine d_lda 8 rfl sb_47_17_8 ag_71 rfl (fun x hx => hx) m0 (At.exs ((At.refl.comp RepoR.a_work).comp (encN_a File.len _ _ hx5.1 _ hx5.2)) (File.len _)) (At.fits ((At.refl.comp RepoR.a_work).comp (encN_a File.len _ _ hx5.1 _ hx5.2)) (File.len _)) rfl ?_
                refine d_T 9 rfl sb_47_17_9 rfl (y_nilck rfl) rfl ?_
                refine d_T 10 rfl sb_47_17_10 rfl (y_fa fl_130_3 rfl) rfl ?_
                obtain ⟨_, hx6, hm⟩ := bd hm
                have hx6 := ckA_some hx6
                refine d_T 11 rfl sb_47_17_11 rfl (y_ia ar_128 rfl rfl hx6.1 hx6.2) rfl ?_
                refine d_hard 12 rfl sb_47_17_12 ?_
                obtain ⟨z3, hn1, hm⟩ := nm_s hm
                refine o_stNA ag_71 rfl rfl (File.plain _) (File.len _) ((Upd.z RepoR.u_work).comp (encN_u File.len _ _ _ hx6.1 _ hx6.2)) r0 (show (RepoR.enc ((.pointer q1)) ((.pointer q2)) ((.pointer q3)) z3) = _ from by subst hn1; rfl) ?_
                refine o_stop (fun h => nomatch h) ?_
                refine d_nil0 sb_47_17_13 rfl ?_
                refine c_region ?_
                refine o_T (y_move rfl) rfl ?_
                refine o_T (y_sub rfl rfl rfl) rfl ?_
                refine o_L (y_assign rfl) rfl rfl ?_
                refine o_nil0 rfl ?_
                exact ⟨mm2, Nat.lt_succ_self _, _, _, ⟨_, _, rfl, rfl, hm⟩, ⟨rfl, trivial⟩, ⟨rfl, rfl⟩, _, (s_take (s_take s_nil))⟩
              · have hm := cd_f h7 hm
                refine c_exit ?_
                obtain ⟨rfl, rfl⟩ := pr2 hm
                exact ⟨_, _, ⟨rfl, rfl⟩, ⟨rfl, trivial⟩, ⟨rfl, rfl⟩, _, (s_take (s_take s_nil))⟩
            · rintro sh G ⟨rfl, rfl⟩
              refine c_region ?_
              refine o_T (y_move rfl) rfl ?_
              refine o_T (y_nilck rfl) rfl ?_
              refine o_T (y_fa fl_130_4 rfl) rfl ?_
              refine o_ld one_3 rfl m0 (At.got (At.refl.comp RepoR.a_n)) rfl ?_
              refine o_T (y_add rfl rfl rfl) rfl ?_
              refine o_T (y_nilck rfl) rfl ?_
              refine o_T (y_fa fl_130_4 rfl) rfl ?_
              obtain ⟨z4, hn2, hm⟩ := nm_s hm
              refine o_stN one_3 rfl rfl rfl (Upd.z RepoR.u_n) r0 (show (RepoR.enc ((.pointer q1)) ((.pointer q2)) ((.pointer q3)) z4) = _ from by subst hn2; rfl) ?_
              refine o_nil0 rfl ?_
              refine c_seq ?_
              refine c_region ?_
              refine o_T (y_move rfl) rfl ?_
              refine o_T (y_move rfl) rfl ?_
              refine o_T (y_move rfl) rfl ?_
              refine o_T (y_move rfl) rfl ?_
              refine o_T (y_build st_71 rfl (fbU rfl File.u_path rfl rfl (fbU rfl File.u_data rfl rfl fbU0))) rfl ?_
              refine o_T (y_nilck rfl) rfl ?_
              refine o_T (y_fa fl_130_3 rfl) rfl ?_
              obtain ⟨_, hx7, hm⟩ := bd hm
              have hx7 := ckA_some hx7
              refine o_T (y_ia ar_128 rfl rfl hx7.1 hx7.2) rfl ?_
              obtain ⟨z5, hn3, hm⟩ := nm_s hm
              refine o_stNA ag_71 rfl rfl (File.plain _) (File.len _) ((Upd.z RepoR.u_work).comp (encN_u File.len _ _ _ hx7.1 _ hx7.2)) r0 (show (RepoR.enc ((.pointer q1)) ((.pointer q2)) ((.pointer q3)) z5) = _ from by subst hn3; rfl) ?_
              refine o_nil0 rfl ?_
              refine c_seq ?_
              refine c_region ?_
              refine o_L (y_assign rfl) rfl rfl ?_
              refine o_nil0 rfl ?_
              refine c_ret ?_
              obtain ⟨rfl, rfl⟩ := pr2 hm
              refine fun aX wX heX hsX => ret1 Tryz.results47 heX rfl (s_take (s_take s_nil)) ?_
              exact ⟨rfl, rfl⟩
        · have hm := cd_f h5 hm
          refine c_skip ?_
          refine c_seq ?_
          refine c_region ?_
          refine o_T (y_move rfl) rfl ?_
          refine o_T (y_move rfl) rfl ?_
          refine o_T (y_move rfl) rfl ?_
          refine o_T (y_move rfl) rfl ?_
          refine o_T (y_build st_71 rfl (fbU rfl File.u_path rfl rfl (fbU rfl File.u_data rfl rfl fbU0))) rfl ?_
          refine o_T (y_nilck rfl) rfl ?_
          refine o_T (y_fa fl_130_3 rfl) rfl ?_
          obtain ⟨_, hx8, hm⟩ := bd hm
          have hx8 := ckA_some hx8
          refine o_T (y_ia ar_128 rfl rfl hx8.1 hx8.2) rfl ?_
          obtain ⟨z6, hn4, hm⟩ := nm_s hm
          refine o_stNA ag_71 rfl rfl (File.plain _) (File.len _) ((Upd.z RepoR.u_work).comp (encN_u File.len _ _ _ hx8.1 _ hx8.2)) r0 (show (RepoR.enc ((.pointer q1)) ((.pointer q2)) ((.pointer q3)) z6) = _ from by subst hn4; rfl) ?_
          refine o_nil0 rfl ?_
          refine c_seq ?_
          refine c_region ?_
          refine o_L (y_assign rfl) rfl rfl ?_
          refine o_nil0 rfl ?_
          refine c_ret ?_
          obtain ⟨rfl, rfl⟩ := pr2 hm
          refine fun aX wX heX hsX => ret1 Tryz.results47 heX rfl (s_take (s_take s_nil)) ?_
          exact ⟨rfl, rfl⟩
end Go.Proofs.Qxb6500350aGreat
