/- MADE BY PROGRAM (tools350/mir.py): mirror and walk. -/
import Derived.Test.Qxb6500350aGreatF2
import Derived.Test.Qxb6500350aGreatT153
import Derived.Test.Qxb6500350aGreatT139
import Derived.Test.Qxb6500350aGreatT131
import Derived.Test.Qxb6500350aGreatT123
import Derived.Test.Qxb6500350aGreatT155
set_option linter.unusedVariables false
set_option linter.unusedSimpArgs false
set_option maxRecDepth 20000
set_option maxHeartbeats 4000000
namespace Go.Proofs.Qxb6500350aGreat
open Go.Eng

def op_150_4 : Array Go.Oper := #[{ dst := some 20, op := Go.Op.move (Go.Operand.tmp 0), type := 33, pos := "merge.go:65", after := #[], guard := none }, { dst := some 21, op := Go.Op.nilCheck (Go.Operand.tmp 20), type := 0, pos := "merge.go:65", after := #[{ on := 0, ground := Go.Ground.data }], guard := none }, { dst := some 22, op := Go.Op.fieldAddr 130 (Go.Operand.tmp 21) 0, type := 0, pos := "merge.go:65", after := #[{ on := 1, ground := Go.Ground.data }], guard := none }, { dst := some 23, op := Go.Op.load 30 (Go.Operand.tmp 22), type := 30, pos := "merge.go:65", after := #[{ on := 2, ground := Go.Ground.data }], guard := none }, { dst := some 24, op := Go.Op.fieldAddr 54 (Go.Operand.tmp 5) 0, type := 0, pos := "merge.go:65", after := #[], guard := none }, { dst := some 25, op := Go.Op.load 9 (Go.Operand.tmp 24), type := 9, pos := "merge.go:65", after := #[{ on := 4, ground := Go.Ground.data }], guard := none }, { dst := some 26, op := Go.Op.move (Go.Operand.tmp 2), type := 3, pos := "merge.go:65", after := #[], guard := none }, { dst := some 27, op := Go.Op.call { callee := Go.Callee.value (Go.Operand.func 139), args := #[Go.Operand.tmp 23, Go.Operand.tmp 25, Go.Operand.tmp 26], argTypes := #[30, 9, 3] }, type := 73, pos := "merge.go:65", after := #[{ on := 3, ground := Go.Ground.data }, { on := 5, ground := Go.Ground.data }, { on := 6, ground := Go.Ground.data }], guard := none }, { dst := some 9, op := Go.Op.assign (Go.Operand.tmp 27), type := 73, pos := "merge.go:65", after := #[{ on := 7, ground := Go.Ground.data }, { on := 7, ground := Go.Ground.chain }, { on := 0, ground := Go.Ground.phase }, { on := 1, ground := Go.Ground.phase }, { on := 2, ground := Go.Ground.phase }, { on := 3, ground := Go.Ground.phase }, { on := 4, ground := Go.Ground.phase }, { on := 5, ground := Go.Ground.phase }, { on := 6, ground := Go.Ground.phase }, { on := 7, ground := Go.Ground.phase }], guard := none }]
theorem sb_150_4_0 : softB op_150_4 #[true, true, true, true, true, true, true, false, true] (Array.replicate 9 false) 0 = true := by kernel_rfl
theorem sb_150_4_1 : softB op_150_4 #[true, true, true, true, true, true, true, false, true] ((Array.replicate 9 false).setIfInBounds 0 true) 1 = true := by kernel_rfl
theorem sb_150_4_2 : softB op_150_4 #[true, true, true, true, true, true, true, false, true] (((Array.replicate 9 false).setIfInBounds 0 true).setIfInBounds 1 true) 2 = true := by kernel_rfl
theorem sb_150_4_3 : softB op_150_4 #[true, true, true, true, true, true, true, false, true] ((((Array.replicate 9 false).setIfInBounds 0 true).setIfInBounds 1 true).setIfInBounds 2 true) 3 = true := by kernel_rfl
theorem sb_150_4_4 : softB op_150_4 #[true, true, true, true, true, true, true, false, true] (((((Array.replicate 9 false).setIfInBounds 0 true).setIfInBounds 1 true).setIfInBounds 2 true).setIfInBounds 3 true) 4 = true := by kernel_rfl
theorem sb_150_4_5 : softB op_150_4 #[true, true, true, true, true, true, true, false, true] ((((((Array.replicate 9 false).setIfInBounds 0 true).setIfInBounds 1 true).setIfInBounds 2 true).setIfInBounds 3 true).setIfInBounds 4 true) 5 = true := by kernel_rfl
theorem sb_150_4_6 : softB op_150_4 #[true, true, true, true, true, true, true, false, true] (((((((Array.replicate 9 false).setIfInBounds 0 true).setIfInBounds 1 true).setIfInBounds 2 true).setIfInBounds 3 true).setIfInBounds 4 true).setIfInBounds 5 true) 6 = true := by kernel_rfl
theorem sb_150_4_7 : hardB op_150_4 ((((((((Array.replicate 9 false).setIfInBounds 0 true).setIfInBounds 1 true).setIfInBounds 2 true).setIfInBounds 3 true).setIfInBounds 4 true).setIfInBounds 5 true).setIfInBounds 6 true) [7] = true := by kernel_rfl
theorem sb_150_4_8 : softB op_150_4 #[true, true, true, true, true, true, true, false, true] (((((((((Array.replicate 9 false).setIfInBounds 0 true).setIfInBounds 1 true).setIfInBounds 2 true).setIfInBounds 3 true).setIfInBounds 4 true).setIfInBounds 5 true).setIfInBounds 6 true).setIfInBounds 7 true) 8 = true := by kernel_rfl
theorem sb_150_4_9 : hardB op_150_4 ((((((((((Array.replicate 9 false).setIfInBounds 0 true).setIfInBounds 1 true).setIfInBounds 2 true).setIfInBounds 3 true).setIfInBounds 4 true).setIfInBounds 5 true).setIfInBounds 6 true).setIfInBounds 7 true).setIfInBounds 8 true) [] = true := by kernel_rfl
/- (*repo.Repo).forward -/
def m150 (n : Nat) (r : RepoR) (g : Graph) (t : Trees) (s : Store) (d : Dev) (x : Index) (h_ : Head) (theirs : Int) (st : (List File)) : Option (Int × RepoR × Graph × Trees × Store × Dev × Index) :=
ob2 (cond (decide (h_.name = [])) (
ob2 (m153 n g ({ Head.zero with seq := theirs })) fun c2 z2 =>
some (c2, z2)) (
ob2 (m139 n g h_.name theirs) fun c3 z3 =>
some (c3, z3))) fun c1 z1 =>
cond (decide (¬ (c1 = 0))) (
ob5 (m131 n r z1 t s d x c1) fun c4 z4 z5 z6 z7 =>
some (c4, r, z4, z5, z6, d, z7)) (
ob6 (m123 n r z1 t s d x st) fun c5 z8 z9 z10 z11 z12 =>
cond (decide (¬ (c5 = 0))) (
some (c5, r, z8, z9, z10, z11, z12)) (
ob2 (m155 n r z12 st) fun z13 z14 =>
some (0, z13, z8, z9, z10, z11, z14)))
theorem t150 {n : Nat} {C : List Chunk} {rc1 : Int} {rz1 : RepoR} {rz2 : Graph} {rz3 : Trees} {rz4 : Store} {rz5 : Dev} {rz6 : Index} {b1 : Nat} {r : RepoR} {b2 : Nat} {g : Graph} {b3 : Nat} {t : Trees} {b4 : Nat} {s : Store} {b5 : Nat} {d : Dev} {v1 : Value} {g1 : List Chunk} {v2 : Value} {g2 : List Chunk} {v3 : Value} {g3 : List Chunk} {v4 : Value} {g4 : List Chunk} {b6 : Nat} {x : Index} {q1 : Option Addr} {h_ : Head} {theirs : Int} {v5 : Value} {st : (List File)} (ho1 : Own rByte v1 d.blk g1) (ho2 : Own rByte v2 d.base g2) (ho3 : Own rInt v3 d.at_ g3) (ho4 : Own rByte v4 d.data g4) (hr1 : Rd rFile C v5 st)  (hm : m150 n r g t s d x h_ theirs st = some (rc1, rz1, rz2, rz3, rz4, rz5, rz6)) : Trip Tryz.prog 150 #[.pointer (some ⟨b1, 0, none⟩), .agg (Head.enc h_).toArray, .int .i64 theirs, v5] ([[(b1, .cells (RepoR.enc (.pointer (some ⟨b2, 0, none⟩)) (.pointer (some ⟨b6, 0, none⟩)) ((.pointer q1)) r).toArray 130 (0, 0))], [(b2, .cells (Graph.enc (.pointer (some ⟨b3, 0, none⟩)) g).toArray 179 (0, 0))], [(b3, .cells (Trees.enc (.pointer (some ⟨b4, 0, none⟩)) t).toArray 169 (0, 0))], [(b4, .cells (Store.enc (.pointer (some ⟨b5, 0, none⟩)) s).toArray 126 (0, 0))], [(b5, .cells (Dev.enc (v1) (v2) (v3) (v4) d).toArray 85 (0, 0))], g1, g2, g3, g4, [(b6, .cells (Index.enc x).toArray 184 (0, 0))]] ++ [C]) (fun u S' => ∃ (ev1 : Value), ∃ (eg1 : List Chunk), ∃ (ev2 : Value), ∃ (eg2 : List Chunk), ∃ (ev3 : Value), ∃ (eg3 : List Chunk), ∃ (ev4 : Value), ∃ (eg4 : List Chunk), .int .i64 rc1 = u ∧ S' = [[(b1, .cells (RepoR.enc (.pointer (some ⟨b2, 0, none⟩)) (.pointer (some ⟨b6, 0, none⟩)) ((.pointer q1)) rz1).toArray 130 (0, 0))], [(b2, .cells (Graph.enc (.pointer (some ⟨b3, 0, none⟩)) rz2).toArray 179 (0, 0))], [(b3, .cells (Trees.enc (.pointer (some ⟨b4, 0, none⟩)) rz3).toArray 169 (0, 0))], [(b4, .cells (Store.enc (.pointer (some ⟨b5, 0, none⟩)) rz4).toArray 126 (0, 0))], [(b5, .cells (Dev.enc (ev1) (ev2) (ev3) (ev4) rz5).toArray 85 (0, 0))], eg1, eg2, eg3, eg4, [(b6, .cells (Index.enc rz6).toArray 184 (0, 0))]] ++ [C] ∧ Own rByte ev1 rz5.blk eg1 ∧ Own rByte ev2 rz5.base eg2 ∧ Own rInt ev3 rz5.at_ eg3 ∧ Own rByte ev4 rz5.data eg4) := by
  refine fn_entry (args := [.pointer (some ⟨b1, 0, none⟩), .agg (Head.enc h_).toArray, .int .i64 theirs, v5]) Tryz.func150 rfl Tryz.ntmps150 rfl (fun w0 => ?_)
  refine c_seq ?_
  refine c_region ?_
  refine o_box rfl rfl rfl rfl (fun b7 => ?_)
  refine o_L (y_assign rfl) rfl rfl ?_
  refine o_nil0 rfl ?_
  refine c_seq ?_
  refine c_region ?_
  refine o_L (y_assign rfl) rfl rfl ?_
  refine o_nil0 rfl ?_
  refine c_seq ?_
  refine c_seq ?_
  refine c_region ?_
  refine o_T (y_fa fl_54_0 rfl) rfl ?_
  refine o_ld one_9 rfl m0 (At.got (At.refl.comp Head.a_name)) rfl ?_
  refine o_T (y_seq rfl rfl) rfl ?_
  refine o_nil1 12 rfl rfl ?_
  obtain ⟨c1, z1, hj1, hm⟩ := bd2 hm
  refine c_joinP (n := 1) (fun sh G => sh = [(9, .int .i64 c1)] ∧ G = [[(b2, .cells (Graph.enc (.pointer (some ⟨b3, 0, none⟩)) z1).toArray 179 (0, 0))]]) (s_skip (s_get (ks k0) (s_take (s_take (s_take (s_take (s_take (s_take (s_take (s_take (s_take (s_take s_nil)))))))))))) (.s .z) (fun _ _ h => h) ?_ ?_
  · have hm := hj1
    refine c_cond rfl (fun h1 => ?_) (fun h1 => ?_)
    · have hm := cd_t h1 hm
      refine c_region ?_
      refine o_T (y_move rfl) rfl ?_
      refine o_T (y_nilck rfl) rfl ?_
      refine o_T (y_fa fl_130_0 rfl) rfl ?_
      refine o_ld one_30 rfl (ms m0) (At.got (At.refl.comp RepoR.a_g)) rfl ?_
      refine o_T (y_move rfl) rfl ?_
      refine o_T (y_build st_54 rfl (fbU rfl Head.u_seq rfl rfl fbU0)) rfl ?_
      obtain ⟨c2, z2, hx1, hm⟩ := bd2 hm
      refine o_callC en_153 rfl (s_skip (s_skip (s_take s_nil))) (t153 hx1) rfl (fun u1 S1 hR1 => ?_)
      obtain ⟨rfl, rfl⟩ := hR1
      refine o_rest ?_
      refine o_L (y_assign rfl) rfl rfl ?_
      refine o_nil0 rfl ?_
      obtain ⟨rfl, rfl⟩ := pr2 hm
      exact ⟨_, _, ⟨rfl, rfl⟩, ⟨rfl, trivial⟩, ⟨rfl, rfl⟩, _, (s_take (s_skip (s_take (s_take (s_take (s_take (s_take (s_take (s_take (s_take (s_take (s_take s_nil))))))))))))⟩
    · have hm := cd_f h1 hm
      refine c_draw #[true, true, true, true, true, true, true, false, true] rfl (n := 9) rfl ?_
      refine d_T 0 rfl sb_150_4_0 rfl (y_move rfl) rfl ?_
      refine d_T 1 rfl sb_150_4_1 rfl (y_nilck rfl) rfl ?_
      refine d_T 2 rfl sb_150_4_2 rfl (y_fa fl_130_0 rfl) rfl ?_
      refine d_ld 3 rfl sb_150_4_3 one_30 rfl (fun x hx => hx) (ms m0) (At.got (At.refl.comp RepoR.a_g)) rfl ?_
      refine d_T 4 rfl sb_150_4_4 rfl (y_fa fl_54_0 rfl) rfl ?_
      refine d_ld 5 rfl sb_150_4_5 one_9 rfl (fun x hx => hx) m0 (At.got (At.refl.comp Head.a_name)) rfl ?_
      refine d_T 6 rfl sb_150_4_6 rfl (y_move rfl) rfl ?_
      refine d_hard 7 rfl sb_150_4_7 ?_
      obtain ⟨c3, z3, hx2, hm⟩ := bd2 hm
      refine o_callC en_139 rfl (s_skip (s_skip (s_take s_nil))) (t139 hx2) rfl (fun u2 S2 hR2 => ?_)
      obtain ⟨rfl, rfl⟩ := hR2
      refine o_rest ?_
      refine o_stop (fun h => nomatch h) ?_
      refine d_L 8 rfl sb_150_4_8 rfl (y_assign rfl) rfl rfl ?_
      refine d_nil0 sb_150_4_9 rfl ?_
      obtain ⟨rfl, rfl⟩ := pr2 hm
      exact ⟨_, _, ⟨rfl, rfl⟩, ⟨rfl, trivial⟩, ⟨rfl, rfl⟩, _, (s_take (s_skip (s_take (s_take (s_take (s_take (s_take (s_take (s_take (s_take (s_take (s_take s_nil))))))))))))⟩
  · rintro sh G ⟨rfl, rfl⟩
    refine c_seq ?_
    refine c_seq ?_
    refine c_region ?_
    refine o_T (y_move rfl) rfl ?_
    refine o_T (y_neq rfl rfl) rfl ?_
    refine o_nil1 29 rfl rfl ?_
    refine c_cond rfl (fun h2 => ?_) (fun h2 => ?_)
    · have hm := cd_t h2 hm
      refine c_seq ?_
      refine c_region ?_
      refine o_T (y_move rfl) rfl ?_
      refine o_T (y_move rfl) rfl ?_
      obtain ⟨c4, z4, z5, z6, z7, hx3, hm⟩ := bd5 hm
      refine o_callC en_131 rfl (s_get (ks k0) (s_take (s_take (s_take (s_take (s_take (s_take (s_take (s_take (s_take s_nil)))))))))) (t131 ho1 ho2 ho3 ho4 hx3) rfl (fun u3 S3 hR3 => ?_)
      obtain ⟨rfl, rfl⟩ := hR3
      refine o_rest ?_
      refine o_L (y_assign rfl) rfl rfl ?_
      refine o_nil0 rfl ?_
      refine c_ret ?_
      obtain ⟨rfl, rfl, rfl, rfl, rfl, rfl, rfl⟩ := pr7 hm
      refine fun aX wX heX hsX => ret1 Tryz.results150 heX rfl (s_take (s_take (s_take (s_take (s_take (s_take (s_take (s_take (s_take (s_take (s_take s_nil))))))))))) ?_
      exact ⟨v1, _, v2, _, v3, _, v4, _, rfl, rfl, ho1, ho2, ho3, ho4⟩
    · have hm := cd_f h2 hm
      refine c_skip ?_
      refine c_seq ?_
      refine c_region ?_
      refine o_T (y_move rfl) rfl ?_
      refine o_T (y_move rfl) rfl ?_
      obtain ⟨c5, z8, z9, z10, z11, z12, hx4, hm⟩ := bd6 hm
      refine o_callC en_123 rfl (s_get (ks k0) (s_take (s_take (s_take (s_take (s_take (s_take (s_take (s_take (s_take s_nil)))))))))) (t123 ho1 ho2 ho3 ho4 (hr1.mono (fun _ hz => (mg hz))) hx4) rfl (fun u4 S4 hR4 => ?_)
      obtain ⟨v6, g5, v7, g6, v8, g7, v9, g8, rfl, rfl, ho5, ho6, ho7, ho8⟩ := hR4
      refine o_rest ?_
      refine o_L (y_assign rfl) rfl rfl ?_
      refine o_nil0 rfl ?_
      refine c_seq ?_
      refine c_seq ?_
      refine c_region ?_
      refine o_T (y_move rfl) rfl ?_
      refine o_T (y_neq rfl rfl) rfl ?_
      refine o_nil1 37 rfl rfl ?_
      refine c_cond rfl (fun h3 => ?_) (fun h3 => ?_)
      · have hm := cd_t h3 hm
        refine c_seq ?_
        refine c_region ?_
        refine o_T (y_move rfl) rfl ?_
        refine o_L (y_assign rfl) rfl rfl ?_
        refine o_nil0 rfl ?_
        refine c_ret ?_
        obtain ⟨rfl, rfl, rfl, rfl, rfl, rfl, rfl⟩ := pr7 hm
        refine fun aX wX heX hsX => ret1 Tryz.results150 heX rfl (s_take (s_take (s_take (s_take (s_take (s_take (s_take (s_take (s_take (s_take (s_take s_nil))))))))))) ?_
        exact ⟨v6, _, v7, _, v8, _, v9, _, rfl, rfl, ho5, ho6, ho7, ho8⟩
      · have hm := cd_f h3 hm
        refine c_skip ?_
        refine c_seq ?_
        refine c_region ?_
        refine o_T (y_move rfl) rfl ?_
        refine o_T (y_move rfl) rfl ?_
        obtain ⟨z13, z14, hx5, hm⟩ := bd2 hm
        refine o_callC en_155 rfl (s_take (s_skip (s_skip (s_skip (s_skip (s_skip (s_skip (s_skip (s_skip (s_take s_nil)))))))))) (t155 (hr1.mono (fun _ hz => (ms (ms (ms (ms (ms (ms (ms (ms (mg hz))))))))))) hx5) rfl (fun u5 S5 hR5 => ?_)
        obtain ⟨rfl, rfl⟩ := hR5
        refine o_rest ?_
        refine o_nil0 rfl ?_
        refine c_seq ?_
        refine c_region ?_
        refine o_L (y_assign rfl) rfl rfl ?_
        refine o_nil0 rfl ?_
        refine c_ret ?_
        obtain ⟨rfl, rfl, rfl, rfl, rfl, rfl, rfl⟩ := pr7 hm
        refine fun aX wX heX hsX => ret1 Tryz.results150 heX rfl (s_take (s_get (ks k0) (s_get (ks k0) (s_get (ks k0) (s_get (ks k0) (s_get (ks k0) (s_get (ks k0) (s_get (ks k0) (s_get (ks k0) (s_take (s_take s_nil))))))))))) ?_
        exact ⟨v6, _, v7, _, v8, _, v9, _, rfl, rfl, ho5, ho6, ho7, ho8⟩
end Go.Proofs.Qxb6500350aGreat
