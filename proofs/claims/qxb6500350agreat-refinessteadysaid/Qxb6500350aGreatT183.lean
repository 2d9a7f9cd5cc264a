/- MADE BY PROGRAM (tools350/mir.py): mirror and walk. -/
import Derived.Test.Qxb6500350aGreatF2
import Derived.Test.Qxb6500350aGreatT113
import Derived.Test.Qxb6500350aGreatT204
set_option linter.unusedVariables false
set_option linter.unusedSimpArgs false
set_option maxRecDepth 20000
set_option maxHeartbeats 4000000
namespace Go.Proofs.Qxb6500350aGreat
open Go.Eng

def op_183_7 : Array Go.Oper := #[{ dst := some 26, op := Go.Op.move (Go.Operand.tmp 1), type := 9, pos := "index.go:71", after := #[], guard := none }, { dst := some 27, op := Go.Op.move (Go.Operand.tmp 0), type := 31, pos := "index.go:71", after := #[], guard := none }, { dst := some 28, op := Go.Op.move (Go.Operand.tmp 7), type := 3, pos := "index.go:71", after := #[], guard := none }, { dst := some 29, op := Go.Op.nilCheck (Go.Operand.tmp 27), type := 0, pos := "index.go:71", after := #[{ on := 1, ground := Go.Ground.data }], guard := none }, { dst := some 30, op := Go.Op.fieldAddr 184 (Go.Operand.tmp 29) 0, type := 0, pos := "index.go:71", after := #[{ on := 3, ground := Go.Ground.data }], guard := none }, { dst := some 31, op := Go.Op.indexAddr 182 (Go.Operand.tmp 30) (Go.Operand.tmp 28), type := 0, pos := "index.go:71", after := #[{ on := 4, ground := Go.Ground.data }, { on := 2, ground := Go.Ground.data }], guard := none }, { dst := some 32, op := Go.Op.fieldAddr 181 (Go.Operand.tmp 31) 4, type := 0, pos := "index.go:71", after := #[{ on := 5, ground := Go.Ground.data }], guard := none }, { dst := some 33, op := Go.Op.load 9 (Go.Operand.tmp 32), type := 9, pos := "index.go:71", after := #[{ on := 6, ground := Go.Ground.data }], guard := none }, { dst := some 34, op := Go.Op.move (Go.Operand.tmp 0), type := 31, pos := "index.go:71", after := #[], guard := none }, { dst := some 35, op := Go.Op.move (Go.Operand.tmp 7), type := 3, pos := "index.go:71", after := #[], guard := none }, { dst := some 36, op := Go.Op.nilCheck (Go.Operand.tmp 34), type := 0, pos := "index.go:71", after := #[{ on := 8, ground := Go.Ground.data }], guard := none }, { dst := some 37, op := Go.Op.fieldAddr 184 (Go.Operand.tmp 36) 0, type := 0, pos := "index.go:71", after := #[{ on := 10, ground := Go.Ground.data }], guard := none }, { dst := some 38, op := Go.Op.indexAddr 182 (Go.Operand.tmp 37) (Go.Operand.tmp 35), type := 0, pos := "index.go:71", after := #[{ on := 11, ground := Go.Ground.data }, { on := 9, ground := Go.Ground.data }], guard := none }, { dst := some 39, op := Go.Op.fieldAddr 181 (Go.Operand.tmp 38) 5, type := 0, pos := "index.go:71", after := #[{ on := 12, ground := Go.Ground.data }], guard := none }, { dst := some 40, op := Go.Op.load 3 (Go.Operand.tmp 39), type := 3, pos := "index.go:71", after := #[{ on := 13, ground := Go.Ground.data }], guard := none }, { dst := some 41, op := Go.Op.build 71 #[(0, Go.Operand.tmp 26), (1, Go.Operand.tmp 33), (2, Go.Operand.tmp 40)], type := 71, pos := "index.go:71", after := #[{ on := 0, ground := Go.Ground.data }, { on := 7, ground := Go.Ground.data }, { on := 14, ground := Go.Ground.data }], guard := none }, { dst := none, op := Go.Op.store 71 (Go.Operand.tmp 4) (Go.Operand.tmp 41), type := 0, pos := "index.go:71", after := #[{ on := 15, ground := Go.Ground.data }, { on := 0, ground := Go.Ground.phase }, { on := 1, ground := Go.Ground.phase }, { on := 2, ground := Go.Ground.phase }, { on := 3, ground := Go.Ground.phase }, { on := 4, ground := Go.Ground.phase }, { on := 5, ground := Go.Ground.phase }, { on := 6, ground := Go.Ground.phase }, { on := 7, ground := Go.Ground.phase }, { on := 8, ground := Go.Ground.phase }, { on := 9, ground := Go.Ground.phase }, { on := 10, ground := Go.Ground.phase }, { on := 11, ground := Go.Ground.phase }, { on := 12, ground := Go.Ground.phase }, { on := 13, ground := Go.Ground.phase }, { on := 14, ground := Go.Ground.phase }, { on := 15, ground := Go.Ground.phase }], guard := none }, { dst := some 5, op := Go.Op.assign (Go.Operand.const (Go.Value.int Go.IntKind.i64 0)), type := 73, pos := "index.go:71", after := #[{ on := 16, ground := Go.Ground.chain }, { on := 0, ground := Go.Ground.phase }, { on := 1, ground := Go.Ground.phase }, { on := 2, ground := Go.Ground.phase }, { on := 3, ground := Go.Ground.phase }, { on := 4, ground := Go.Ground.phase }, { on := 5, ground := Go.Ground.phase }, { on := 6, ground := Go.Ground.phase }, { on := 7, ground := Go.Ground.phase }, { on := 8, ground := Go.Ground.phase }, { on := 9, ground := Go.Ground.phase }, { on := 10, ground := Go.Ground.phase }, { on := 11, ground := Go.Ground.phase }, { on := 12, ground := Go.Ground.phase }, { on := 13, ground := Go.Ground.phase }, { on := 14, ground := Go.Ground.phase }, { on := 15, ground := Go.Ground.phase }, { on := 16, ground := Go.Ground.phase }], guard := none }]
theorem sb_183_7_0 : softB op_183_7 #[true, true, true, true, true, true, true, true, true, true, true, true, true, true, true, true, false, true] (Array.replicate 18 false) 0 = true := by kernel_rfl
theorem sb_183_7_1 : softB op_183_7 #[true, true, true, true, true, true, true, true, true, true, true, true, true, true, true, true, false, true] ((Array.replicate 18 false).setIfInBounds 0 true) 1 = true := by kernel_rfl
theorem sb_183_7_2 : softB op_183_7 #[true, true, true, true, true, true, true, true, true, true, true, true, true, true, true, true, false, true] (((Array.replicate 18 false).setIfInBounds 0 true).setIfInBounds 1 true) 2 = true := by kernel_rfl
theorem sb_183_7_3 : softB op_183_7 #[true, true, true, true, true, true, true, true, true, true, true, true, true, true, true, true, false, true] ((((Array.replicate 18 false).setIfInBounds 0 true).setIfInBounds 1 true).setIfInBounds 2 true) 3 = true := by kernel_rfl
theorem sb_183_7_4 : softB op_183_7 #[true, true, true, true, true, true, true, true, true, true, true, true, true, true, true, true, false, true] (((((Array.replicate 18 false).setIfInBounds 0 true).setIfInBounds 1 true).setIfInBounds 2 true).setIfInBounds 3 true) 4 = true := by kernel_rfl
theorem sb_183_7_5 : softB op_183_7 #[true, true, true, true, true, true, true, true, true, true, true, true, true, true, true, true, false, true] ((((((Array.replicate 18 false).setIfInBounds 0 true).setIfInBounds 1 true).setIfInBounds 2 true).setIfInBounds 3 true).setIfInBounds 4 true) 5 = true := by kernel_rfl
theorem sb_183_7_6 : softB op_183_7 #[true, true, true, true, true, true, true, true, true, true, true, true, true, true, true, true, false, true] (((((((Array.replicate 18 false).setIfInBounds 0 true).setIfInBounds 1 true).setIfInBounds 2 true).setIfInBounds 3 true).setIfInBounds 4 true).setIfInBounds 5 true) 6 = true := by kernel_rfl
theorem sb_183_7_7 : softB op_183_7 #[true, true, true, true, true, true, true, true, true, true, true, true, true, true, true, true, false, true] ((((((((Array.replicate 18 false).setIfInBounds 0 true).setIfInBounds 1 true).setIfInBounds 2 true).setIfInBounds 3 true).setIfInBounds 4 true).setIfInBounds 5 true).setIfInBounds 6 true) 7 = true := by kernel_rfl
theorem sb_183_7_8 : softB op_183_7 #[true, true, true, true, true, true, true, true, true, true, true, true, true, true, true, true, false, true] (((((((((Array.replicate 18 false).setIfInBounds 0 true).setIfInBounds 1 true).setIfInBounds 2 true).setIfInBounds 3 true).setIfInBounds 4 true).setIfInBounds 5 true).setIfInBounds 6 true).setIfInBounds 7 true) 8 = true := by kernel_rfl
theorem sb_183_7_9 : softB op_183_7 #[true, true, true, true, true, true, true, true, true, true, true, true, true, true, true, true, false, true] ((((((((((Array.replicate 18 false).setIfInBounds 0 true).setIfInBounds 1 true).setIfInBounds 2 true).setIfInBounds 3 true).setIfInBounds 4 true).setIfInBounds 5 true).setIfInBounds 6 true).setIfInBounds 7 true).setIfInBounds 8 true) 9 = true := by kernel_rfl
theorem sb_183_7_10 : softB op_183_7 #[true, true, true, true, true, true, true, true, true, true, true, true, true, true, true, true, false, true] (((((((((((Array.replicate 18 false).setIfInBounds 0 true).setIfInBounds 1 true).setIfInBounds 2 true).setIfInBounds 3 true).setIfInBounds 4 true).setIfInBounds 5 true).setIfInBounds 6 true).setIfInBounds 7 true).setIfInBounds 8 true).setIfInBounds 9 true) 10 = true := by kernel_rfl
theorem sb_183_7_11 : softB op_183_7 #[true, true, true, true, true, true, true, true, true, true, true, true, true, true, true, true, false, true] ((((((((((((Array.replicate 18 false).setIfInBounds 0 true).setIfInBounds 1 true).setIfInBounds 2 true).setIfInBounds 3 true).setIfInBounds 4 true).setIfInBounds 5 true).setIfInBounds 6 true).setIfInBounds 7 true).setIfInBounds 8 true).setIfInBounds 9 true).setIfInBounds 10 true) 11 = true := by kernel_rfl
theorem sb_183_7_12 : softB op_183_7 #[true, true, true, true, true, true, true, true, true, true, true, true, true, true, true, true, false, true] (((((((((((((Array.replicate 18 false).setIfInBounds 0 true).setIfInBounds 1 true).setIfInBounds 2 true).setIfInBounds 3 true).setIfInBounds 4 true).setIfInBounds 5 true).setIfInBounds 6 true).setIfInBounds 7 true).setIfInBounds 8 true).setIfInBounds 9 true).setIfInBounds 10 true).setIfInBounds 11 true) 12 = true := by kernel_rfl
theorem sb_183_7_13 : softB op_183_7 #[true, true, true, true, true, true, true, true, true, true, true, true, true, true, true, true, false, true] ((((((((((((((Array.replicate 18 false).setIfInBounds 0 true).setIfInBounds 1 true).setIfInBounds 2 true).setIfInBounds 3 true).setIfInBounds 4 true).setIfInBounds 5 true).setIfInBounds 6 true).setIfInBounds 7 true).setIfInBounds 8 true).setIfInBounds 9 true).setIfInBounds 10 true).setIfInBounds 11 true).setIfInBounds 12 true) 13 = true := by kernel_rfl
theorem sb_183_7_14 : softB op_183_7 #[true, true, true, true, true, true, true, true, true, true, true, true, true, true, true, true, false, true] (((((((((((((((Array.replicate 18 false).setIfInBounds 0 true).setIfInBounds 1 true).setIfInBounds 2 true).setIfInBounds 3 true).setIfInBounds 4 true).setIfInBounds 5 true).setIfInBounds 6 true).setIfInBounds 7 true).setIfInBounds 8 true).setIfInBounds 9 true).setIfInBounds 10 true).setIfInBounds 11 true).setIfInBounds 12 true).setIfInBounds 13 true) 14 = true := by kernel_rfl
theorem sb_183_7_15 : softB op_183_7 #[true, true, true, true, true, true, true, true, true, true, true, true, true, true, true, true, false, true] ((((((((((((((((Array.replicate 18 false).setIfInBounds 0 true).setIfInBounds 1 true).setIfInBounds 2 true).setIfInBounds 3 true).setIfInBounds 4 true).setIfInBounds 5 true).setIfInBounds 6 true).setIfInBounds 7 true).setIfInBounds 8 true).setIfInBounds 9 true).setIfInBounds 10 true).setIfInBounds 11 true).setIfInBounds 12 true).setIfInBounds 13 true).setIfInBounds 14 true) 15 = true := by kernel_rfl
theorem sb_183_7_16 : hardB op_183_7 (((((((((((((((((Array.replicate 18 false).setIfInBounds 0 true).setIfInBounds 1 true).setIfInBounds 2 true).setIfInBounds 3 true).setIfInBounds 4 true).setIfInBounds 5 true).setIfInBounds 6 true).setIfInBounds 7 true).setIfInBounds 8 true).setIfInBounds 9 true).setIfInBounds 10 true).setIfInBounds 11 true).setIfInBounds 12 true).setIfInBounds 13 true).setIfInBounds 14 true).setIfInBounds 15 true) [16] = true := by kernel_rfl
theorem sb_183_7_17 : softB op_183_7 #[true, true, true, true, true, true, true, true, true, true, true, true, true, true, true, true, false, true] ((((((((((((((((((Array.replicate 18 false).setIfInBounds 0 true).setIfInBounds 1 true).setIfInBounds 2 true).setIfInBounds 3 true).setIfInBounds 4 true).setIfInBounds 5 true).setIfInBounds 6 true).setIfInBounds 7 true).setIfInBounds 8 true).setIfInBounds 9 true).setIfInBounds 10 true).setIfInBounds 11 true).setIfInBounds 12 true).setIfInBounds 13 true).setIfInBounds 14 true).setIfInBounds 15 true).setIfInBounds 16 true) 17 = true := by kernel_rfl
theorem sb_183_7_18 : hardB op_183_7 (((((((((((((((((((Array.replicate 18 false).setIfInBounds 0 true).setIfInBounds 1 true).setIfInBounds 2 true).setIfInBounds 3 true).setIfInBounds 4 true).setIfInBounds 5 true).setIfInBounds 6 true).setIfInBounds 7 true).setIfInBounds 8 true).setIfInBounds 9 true).setIfInBounds 10 true).setIfInBounds 11 true).setIfInBounds 12 true).setIfInBounds 13 true).setIfInBounds 14 true).setIfInBounds 15 true).setIfInBounds 16 true).setIfInBounds 17 true) [] = true := by kernel_rfl
/- (*index.Index).Get -/
def m183 (n : Nat) (x : Index) (path : Str) : Option (File × Int) :=
ob1 (m113 n path) fun c1 =>
cond (!c1) (
nm (File.zero : File) fun z1 =>
some (z1, 13)) (
ob2 (m204 n x path) fun c2 c3 =>
cond ((decide (c2 = 0)) || c3) (
nm (File.zero : File) fun z2 =>
some (z2, 13)) (
Option.bind (ckA c2 49) fun _ =>
Option.bind (ckA c2 49) fun _ =>
nm (({ path := path, data := (x.pool c2).data, mode := (x.pool c2).mode } : File) : File) fun z3 =>
some (z3, 0)))
theorem t183 {n : Nat} {C : List Chunk} {rx1 : File} {rc1 : Int} {b1 : Nat} {x : Index} {path : Str}   (hm : m183 n x path = some (rx1, rc1)) : Trip Tryz.prog 183 #[.pointer (some ⟨b1, 0, none⟩), .string ⟨(path : Str).toArray⟩] ([[(b1, .cells (Index.enc x).toArray 184 (0, 0))]] ++ [C]) (fun u S' => .tuple #[.agg (File.enc rx1).toArray, .int .i64 rc1] = u ∧ S' = [[(b1, .cells (Index.enc x).toArray 184 (0, 0))]] ++ [C]) := by
  refine fn_entry (args := [.pointer (some ⟨b1, 0, none⟩), .string ⟨(path : Str).toArray⟩]) Tryz.func183 rfl Tryz.ntmps183 rfl (fun w0 => ?_)
  refine c_seq ?_
  refine c_region ?_
  refine o_alloc ze_71 rfl rfl (fun b2 => ?_)
  refine o_L (y_assign rfl) rfl rfl ?_
  refine o_nil0 rfl ?_
  refine c_seq ?_
  refine c_region ?_
  refine o_T (y_move rfl) rfl ?_
  obtain ⟨c1, hx1, hm⟩ := bd1 hm
  refine o_callC en_113 rfl s_nil (t113 hx1) rfl (fun u1 S1 hR1 => ?_)
  obtain ⟨rfl, rfl⟩ := hR1
  refine o_rest ?_
  refine o_L (y_assign rfl) rfl rfl ?_
  refine o_nil0 rfl ?_
  refine c_seq ?_
  refine c_seq ?_
  refine c_region ?_
  refine o_T (y_move rfl) rfl ?_
  refine o_T (y_not rfl) rfl ?_
  refine o_nil1 12 rfl rfl ?_
  refine c_cond rfl (fun h1 => ?_) (fun h1 => ?_)
  · have hm := cd_t h1 hm
    refine c_seq ?_
    refine c_region ?_
    refine o_T (y_build st_71 rfl fbU0) rfl ?_
    obtain ⟨z1, hn1, hm⟩ := nm_s hm
    refine o_stNA ag_71 rfl rfl (File.plain _) (File.len _) (Upd.refl ((File.len _).trans (File.len _).symm)) r0 (show (File.enc z1) = _ from by subst hn1; rfl) ?_
    refine o_L (y_assign rfl) rfl rfl ?_
    refine o_nil0 rfl ?_
    refine c_ret ?_
    obtain ⟨rfl, rfl⟩ := pr2 hm
    refine fun aX wX heX hsX => retct Tryz.results183 heX hsX rfl rfl ag_71 m0 (by simp [File.len]) (s_skip (s_take (s_take s_nil))) ?_
    exact ⟨rfl, rfl⟩
  · have hm := cd_f h1 hm
    refine c_skip ?_
    refine c_seq ?_
    refine c_region ?_
    refine o_T (y_move rfl) rfl ?_
    refine o_T (y_move rfl) rfl ?_
    obtain ⟨c2, c3, hx2, hm⟩ := bd2 hm
    refine o_callC en_204 rfl (s_skip (s_take s_nil)) (t204 hx2) rfl (fun u2 S2 hR2 => ?_)
    obtain ⟨rfl, rfl⟩ := hR2
    refine o_rest ?_
    refine o_T (y_move rfl) rfl ?_
    refine o_T (y_extract rfl rfl) rfl ?_
    refine o_T (y_extract rfl rfl) rfl ?_
    refine o_L (y_assign rfl) rfl rfl ?_
    refine o_L (y_assign rfl) rfl rfl ?_
    refine o_nil0 rfl ?_
    refine c_seq ?_
    refine c_seq ?_
    refine c_joinP (n := 0) (fun sh G => sh = [(24, .bool ((decide (c2 = 0)) || c3))] ∧ G = []) Sel.all' .z (fun _ _ h => h) ?_ ?_
    · skip
      refine c_region ?_
      refine o_T (y_move rfl) rfl ?_
      refine o_T (y_eql rfl rfl) rfl ?_
      refine o_T (y_move rfl) rfl ?_
      refine o_split 22 rfl (fun h2 => ?_) (fun h2 => ?_)
      · skip
        refine o_pass rfl rfl rfl rfl rfl ?_
        refine o_T (y_pickT rfl rfl) rfl ?_
        refine o_nil1 24 rfl rfl ?_
        refine ⟨_, _, ⟨rfl, rfl⟩, ⟨by first | rfl | exact gtb rfl (by simp only [h2, Bool.true_and, Bool.false_and, Bool.true_or, Bool.false_or, Bool.and_true, Bool.and_false, Bool.or_true, Bool.or_false, Bool.not_true, Bool.not_false]), trivial⟩, ⟨rfl, rfl⟩, _, (s_take (s_take (s_take s_nil)))⟩
      · skip
        refine o_take rfl rfl rfl ?_
        refine o_T (y_move rfl) rfl ?_
        refine o_T (y_pickF rfl rfl) rfl ?_
        refine o_nil1 24 rfl rfl ?_
        refine ⟨_, _, ⟨rfl, rfl⟩, ⟨by first | rfl | exact gtb rfl (by simp only [h2, Bool.true_and, Bool.false_and, Bool.true_or, Bool.false_or, Bool.and_true, Bool.and_false, Bool.or_true, Bool.or_false, Bool.not_true, Bool.not_false]), trivial⟩, ⟨rfl, rfl⟩, _, (s_take (s_take (s_take s_nil)))⟩
    · rintro sh G ⟨rfl, rfl⟩
      refine c_cond rfl (fun h3 => ?_) (fun h3 => ?_)
      · have hm := cd_t h3 hm
        refine c_seq ?_
        refine c_region ?_
        refine o_T (y_build st_71 rfl fbU0) rfl ?_
        obtain ⟨z2, hn2, hm⟩ := nm_s hm
        refine o_stNA ag_71 rfl rfl (File.plain _) (File.len _) (Upd.refl ((File.len _).trans (File.len _).symm)) (rs r0) (show (File.enc z2) = _ from by subst hn2; rfl) ?_
        refine o_L (y_assign rfl) rfl rfl ?_
        refine o_nil0 rfl ?_
        refine c_ret ?_
        obtain ⟨rfl, rfl⟩ := pr2 hm
        refine fun aX wX heX hsX => retct Tryz.results183 heX hsX rfl rfl ag_71 (ms m0) (by simp [File.len]) (s_take (s_skip (s_take s_nil))) ?_
        exact ⟨rfl, rfl⟩
      · have hm := cd_f h3 hm
        refine c_skip ?_
        refine c_seq ?_
        refine c_draw #[true, true, true, true, true, true, true, true, true, true, true, true, true, true, true, true, false, true] rfl (n := 18) rfl ?_
        refine d_T 0 rfl sb_183_7_0 rfl (y_move rfl) rfl ?_
        refine d_T 1 rfl sb_183_7_1 rfl (y_move rfl) rfl ?_
        refine d_T 2 rfl sb_183_7_2 rfl (y_move rfl) rfl ?_
        refine d_T 3 rfl sb_183_7_3 rfl (y_nilck rfl) rfl ?_
        refine d_T 4 rfl sb_183_7_4 rfl (y_fa fl_184_0 rfl) rfl ?_
        obtain ⟨_, hx3, hm⟩ := bd hm
        have hx3 := ckA_some hx3
        refine d_T 5 rfl sb_183_7_5 rfl (y_ia ar_182 rfl rfl hx3.1 hx3.2) rfl ?_
        refine d_T 6 rfl sb_183_7_6 rfl (y_fa fl_181_4 rfl) rfl ?_
        refine d_ld 7 rfl sb_183_7_7 one_9 rfl (fun x hx => hx) m0 (At.got (((At.refl.comp Index.a_pool).comp (encN_a Nod.len _ _ hx3.1 _ hx3.2)).comp Nod.a_data)) rfl ?_
        refine d_T 8 rfl sb_183_7_8 rfl (y_move rfl) rfl ?_
        refine d_T 9 rfl sb_183_7_9 rfl (y_move rfl) rfl ?_
        refine d_T 10 rfl sb_183_7_10 rfl (y_nilck rfl) rfl ?_
        refine d_T 11 rfl sb_183_7_11 rfl (y_fa fl_184_0 rfl) rfl ?_
        obtain ⟨_, hx4, hm⟩ := bd hm
        have hx4 := ckA_some hx4
        refine d_T 12 rfl sb_183_7_12 rfl (y_ia ar_182 rfl rfl hx4.1 hx4.2) rfl ?_
        refine d_T 13 rfl sb_183_7_13 rfl (y_fa fl_181_5 rfl) rfl ?_
        refine d_ld 14 rfl sb_183_7_14 one_3 rfl (fun x hx => hx) m0 (At.got (((At.refl.comp Index.a_pool).comp (encN_a Nod.len _ _ hx4.1 _ hx4.2)).comp Nod.a_mode)) rfl ?_
        refine d_T 15 rfl sb_183_7_15 rfl (y_build st_71 rfl (fbU rfl File.u_path rfl rfl (fbU rfl File.u_data rfl rfl (fbU rfl File.u_mode rfl rfl fbU0)))) rfl ?_
        refine d_hard 16 rfl sb_183_7_16 ?_
        obtain ⟨z3, hn3, hm⟩ := nm_s hm
        refine o_stNA ag_71 rfl rfl (File.plain _) (File.len _) (Upd.refl ((File.len _).trans (File.len _).symm)) (rs r0) (show (File.enc z3) = _ from by subst hn3; rfl) ?_
        refine o_stop (fun h => nomatch h) ?_
        refine d_L 17 rfl sb_183_7_17 rfl (y_assign rfl) rfl rfl ?_
        refine d_nil0 sb_183_7_18 rfl ?_
        refine c_ret ?_
        obtain ⟨rfl, rfl⟩ := pr2 hm
        refine fun aX wX heX hsX => retct Tryz.results183 heX hsX rfl rfl ag_71 (ms m0) (by simp [File.len]) (s_take (s_skip (s_take s_nil))) ?_
        exact ⟨rfl, rfl⟩
end Go.Proofs.Qxb6500350aGreat
