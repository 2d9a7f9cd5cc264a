/- MADE BY PROGRAM (tools350/mir.py): mirror and walk. -/
import Derived.Test.Qxb6500350aGreatF2
import Derived.Test.Qxb6500350aGreatT247
import Derived.Test.Qxb6500350aGreatT219
import Derived.Test.Qxb6500350aGreatT220
import Derived.Test.Qxb6500350aGreatT215
import Derived.Test.Qxb6500350aGreatT168
import Derived.Test.Qxb6500350aGreatT249
set_option linter.unusedVariables false
set_option linter.unusedSimpArgs false
set_option maxRecDepth 20000
set_option maxHeartbeats 4000000
namespace Go.Proofs.Qxb6500350aGreat
open Go.Eng

def op_170_8 : Array Go.Oper := #[{ dst := some 42, op := Go.Op.move (Go.Operand.tmp 0), type := 30, pos := "graph.go:94", after := #[], guard := none }, { dst := some 43, op := Go.Op.move (Go.Operand.tmp 2), type := 3, pos := "graph.go:94", after := #[], guard := none }, { dst := some 44, op := Go.Op.load 172 (Go.Operand.tmp 6), type := 172, pos := "graph.go:94", after := #[], guard := none }, { dst := some 45, op := Go.Op.nilCheck (Go.Operand.tmp 42), type := 0, pos := "graph.go:94", after := #[{ on := 0, ground := Go.Ground.data }], guard := none }, { dst := some 46, op := Go.Op.fieldAddr 179 (Go.Operand.tmp 45) 1, type := 0, pos := "graph.go:94", after := #[{ on := 3, ground := Go.Ground.data }], guard := none }, { dst := some 47, op := Go.Op.indexAddr 173 (Go.Operand.tmp 46) (Go.Operand.tmp 43), type := 0, pos := "graph.go:94", after := #[{ on := 4, ground := Go.Ground.data }, { on := 1, ground := Go.Ground.data }, { on := 0, ground := Go.Ground.phase }, { on := 1, ground := Go.Ground.phase }, { on := 2, ground := Go.Ground.phase }], guard := none }, { dst := none, op := Go.Op.store 172 (Go.Operand.tmp 47) (Go.Operand.tmp 44), type := 0, pos := "graph.go:94", after := #[{ on := 5, ground := Go.Ground.data }, { on := 2, ground := Go.Ground.data }, { on := 0, ground := Go.Ground.phase }, { on := 1, ground := Go.Ground.phase }, { on := 2, ground := Go.Ground.phase }], guard := none }]
theorem sb_170_8_0 : softB op_170_8 #[true, true, true, true, true, true, false] (Array.replicate 7 false) 0 = true := by kernel_rfl
theorem sb_170_8_1 : softB op_170_8 #[true, true, true, true, true, true, false] ((Array.replicate 7 false).setIfInBounds 0 true) 1 = true := by kernel_rfl
theorem sb_170_8_2 : softB op_170_8 #[true, true, true, true, true, true, false] (((Array.replicate 7 false).setIfInBounds 0 true).setIfInBounds 1 true) 2 = true := by kernel_rfl
theorem sb_170_8_3 : softB op_170_8 #[true, true, true, true, true, true, false] ((((Array.replicate 7 false).setIfInBounds 0 true).setIfInBounds 1 true).setIfInBounds 2 true) 3 = true := by kernel_rfl
theorem sb_170_8_4 : softB op_170_8 #[true, true, true, true, true, true, false] (((((Array.replicate 7 false).setIfInBounds 0 true).setIfInBounds 1 true).setIfInBounds 2 true).setIfInBounds 3 true) 4 = true := by kernel_rfl
theorem sb_170_8_5 : softB op_170_8 #[true, true, true, true, true, true, false] ((((((Array.replicate 7 false).setIfInBounds 0 true).setIfInBounds 1 true).setIfInBounds 2 true).setIfInBounds 3 true).setIfInBounds 4 true) 5 = true := by kernel_rfl
theorem sb_170_8_6 : hardB op_170_8 (((((((Array.replicate 7 false).setIfInBounds 0 true).setIfInBounds 1 true).setIfInBounds 2 true).setIfInBounds 3 true).setIfInBounds 4 true).setIfInBounds 5 true) [6] = true := by kernel_rfl
theorem sb_170_8_7 : hardB op_170_8 ((((((((Array.replicate 7 false).setIfInBounds 0 true).setIfInBounds 1 true).setIfInBounds 2 true).setIfInBounds 3 true).setIfInBounds 4 true).setIfInBounds 5 true).setIfInBounds 6 true) [] = true := by kernel_rfl
/- (*graph.Graph).load -/
def m170_w1 (n : Nat) (t : Trees) (s : Store) (d : Dev) (mm : Nat) : Int → Graph → Option (Int × Graph) := it2 (fun lp1 c1 z2 =>
cond (decide (c1 ≤ 48)) (
ob3 (m219 n t s d c1) fun c3 l1 c4 =>
cond ((decide (c4 = 0)) && (decide (c3 = 3))) (
ob3 (m220 n l1) fun x1 c5 c6 =>
nm (x1 : Com) fun z4 =>
cond c6 (
Option.bind (ckA c1 49) fun _ =>
nm ({ z2 with com := (upI z2.com c1 z4) } : Graph) fun z5 =>
ob1 (m215 n z5 c1) fun z6 =>
lp1 (wi (c1 + 1)) z6) (
lp1 (wi (c1 + 1)) z2)) (
lp1 (wi (c1 + 1)) z2)) (
some (c1, z2))) mm
def m170 (n : Nat) (g : Graph) (t : Trees) (s : Store) (d : Dev) : Option (Graph) :=
ob1 (m247 n g) fun z1 =>
ob2 (m170_w1 n t s d n 1 z1) fun c2 z3 =>
ob1 (m168 n t s) fun c7 =>
ob3 (m219 n t s d c7) fun c8 l2 c9 =>
cond ((decide (c9 = 0)) && (decide (c8 = 4))) (
ob1 (m249 n z3 l2) fun z7 =>
some z7) (
some z3)
theorem t170 {n : Nat} {C : List Chunk} {rz1 : Graph} {b1 : Nat} {g : Graph} {b2 : Nat} {t : Trees} {b3 : Nat} {s : Store} {b4 : Nat} {d : Dev} {v1 : Value} {g1 : List Chunk} {v2 : Value} {g2 : List Chunk} {v3 : Value} {g3 : List Chunk} {v4 : Value} {g4 : List Chunk} (ho1 : Own rByte v1 d.blk g1) (ho2 : Own rByte v2 d.base g2) (ho3 : Own rInt v3 d.at_ g3) (ho4 : Own rByte v4 d.data g4)  (hm : m170 n g t s d = some rz1) : Trip Tryz.prog 170 #[.pointer (some ⟨b1, 0, none⟩)] ([[(b1, .cells (Graph.enc (.pointer (some ⟨b2, 0, none⟩)) g).toArray 179 (0, 0))], [(b2, .cells (Trees.enc (.pointer (some ⟨b3, 0, none⟩)) t).toArray 169 (0, 0))], [(b3, .cells (Store.enc (.pointer (some ⟨b4, 0, none⟩)) s).toArray 126 (0, 0))], [(b4, .cells (Dev.enc (v1) (v2) (v3) (v4) d).toArray 85 (0, 0))], g1, g2, g3, g4] ++ [C]) (fun u S' => .tuple #[] = u ∧ S' = [[(b1, .cells (Graph.enc (.pointer (some ⟨b2, 0, none⟩)) rz1).toArray 179 (0, 0))], [(b2, .cells (Trees.enc (.pointer (some ⟨b3, 0, none⟩)) t).toArray 169 (0, 0))], [(b3, .cells (Store.enc (.pointer (some ⟨b4, 0, none⟩)) s).toArray 126 (0, 0))], [(b4, .cells (Dev.enc (v1) (v2) (v3) (v4) d).toArray 85 (0, 0))], g1, g2, g3, g4] ++ [C]) := by
  refine fn_entry (args := [.pointer (some ⟨b1, 0, none⟩)]) Tryz.func170 rfl Tryz.ntmps170 rfl (fun w0 => ?_)
  refine c_seq ?_
  refine c_region ?_
  refine o_T (y_move rfl) rfl ?_
  obtain ⟨z1, hx1, hm⟩ := bd1 hm
  refine o_callC en_247 rfl (s_take s_nil) (t247 hx1) rfl (fun u1 S1 hR1 => ?_)
  obtain ⟨rfl, rfl⟩ := hR1
  refine o_rest ?_
  refine o_nil0 rfl ?_
  refine c_seq ?_
  refine c_seq ?_
  refine c_region ?_
  refine o_L (y_assign rfl) rfl rfl ?_
  refine o_nil0 rfl ?_
  obtain ⟨c2, z3, hj1, hm⟩ := bd2 hm
  refine c_joinP (n := 1) (fun sh G => sh = [(2, .int .i64 c2)] ∧ G = [[(b1, .cells (Graph.enc (.pointer (some ⟨b2, 0, none⟩)) z3).toArray 179 (0, 0))]]) (s_take (s_take (s_take (s_take (s_take (s_take (s_take (s_take (s_take s_nil))))))))) (.s .z) (fun _ _ h => h) ?_ ?_
  · skip
    refine c_block ?_
    refine c_loopP (n := 1) (fun mm sh G => ∃ (c1 : Int), ∃ (z2 : Graph), sh = [(2, .int .i64 c1)] ∧ G = [[(b1, .cells (Graph.enc (.pointer (some ⟨b2, 0, none⟩)) z2).toArray 179 (0, 0))]] ∧ m170_w1 n t s d mm c1 z2 = some (c2, z3)) n (s_take (s_take (s_take (s_take (s_take (s_take (s_take (s_take (s_take s_nil))))))))) (.s .z) ⟨_, _, ⟨_, _, rfl, rfl, hj1⟩, ⟨rfl, trivial⟩, _, (s_take (s_take (s_take (s_take (s_take (s_take (s_take (s_take (s_take s_nil)))))))))⟩ ?_
    rintro mm sh G ⟨c1, z2, rfl, rfl, hm⟩
    obtain ⟨mm1, rfl, hm⟩ := it2_s hm
    refine c_seq ?_
    refine c_seq ?_
    refine c_region ?_
    refine o_T (y_move rfl) rfl ?_
    refine o_T (y_leq rfl rfl) rfl ?_
    refine o_nil1 16 rfl rfl ?_
    refine c_cond rfl (fun h1 => ?_) (fun h1 => ?_)
    · have hm := cd_t h1 hm
      refine c_skip ?_
      refine c_seq ?_
      refine c_block ?_
      refine c_seq ?_
      refine c_region ?_
      refine o_T (y_move rfl) rfl ?_
      refine o_T (y_nilck rfl) rfl ?_
      refine o_T (y_fa fl_179_0 rfl) rfl ?_
      refine o_ld one_29 rfl m0 (At.got (At.refl.comp Graph.a_t)) rfl ?_
      refine o_T (y_move rfl) rfl ?_
      obtain ⟨c3, l1, c4, hx2, hm⟩ := bd3 hm
      refine o_callC en_219 rfl (s_skip (s_take (s_take (s_take (s_take (s_take (s_take (s_take s_nil)))))))) (t219 ho1 ho2 ho3 ho4 hx2) rfl (fun u2 S2 hR2 => ?_)
      obtain ⟨v5, g5, rfl, rfl, ho5⟩ := hR2
      refine o_rest ?_
      refine o_T (y_move rfl) rfl ?_
      refine o_T (y_extract rfl rfl) rfl ?_
      refine o_T (y_extract rfl rfl) rfl ?_
      refine o_T (y_extract rfl rfl) rfl ?_
      refine o_L (y_assign rfl) rfl rfl ?_
      refine o_L (y_assign rfl) rfl rfl ?_
      refine o_L (y_assign rfl) rfl rfl ?_
      refine o_nil0 rfl ?_
      refine c_seq ?_
      refine c_joinP (n := 0) (fun sh G => sh = [(34, .bool ((decide (c4 = 0)) && (decide (c3 = 3))))] ∧ G = []) Sel.all' .z (fun _ _ h => h) ?_ ?_
      · skip
        refine c_region ?_
        refine o_T (y_move rfl) rfl ?_
        refine o_T (y_eql rfl rfl) rfl ?_
        refine o_T (y_move rfl) rfl ?_
        refine o_split 31 rfl (fun h2 => ?_) (fun h2 => ?_)
        · skip
          refine o_take rfl rfl rfl ?_
          refine o_T (y_move rfl) rfl ?_
          refine o_take rfl rfl rfl ?_
          refine o_T (y_eql rfl rfl) rfl ?_
          refine o_T (y_pickT rfl rfl) rfl ?_
          refine o_nil1 34 rfl rfl ?_
          refine ⟨_, _, ⟨rfl, rfl⟩, ⟨by first | rfl | exact gtb rfl (by simp only [h2, Bool.true_and, Bool.false_and, Bool.true_or, Bool.false_or, Bool.and_true, Bool.and_false, Bool.or_true, Bool.or_false, Bool.not_true, Bool.not_false]), trivial⟩, ⟨rfl, rfl⟩, _, (s_take (s_take (s_take (s_take (s_take (s_take (s_take (s_take (s_take (s_take s_nil))))))))))⟩
        · skip
          refine o_pass rfl rfl rfl rfl rfl ?_
          refine o_pass rfl rfl rfl rfl rfl ?_
          refine o_T (y_pickF rfl rfl) rfl ?_
          refine o_nil1 34 rfl rfl ?_
          refine ⟨_, _, ⟨rfl, rfl⟩, ⟨by first | rfl | exact gtb rfl (by simp only [h2, Bool.true_and, Bool.false_and, Bool.true_or, Bool.false_or, Bool.and_true, Bool.and_false, Bool.or_true, Bool.or_false, Bool.not_true, Bool.not_false]), trivial⟩, ⟨rfl, rfl⟩, _, (s_take (s_take (s_take (s_take (s_take (s_take (s_take (s_take (s_take (s_take s_nil))))))))))⟩
      · rintro sh G ⟨rfl, rfl⟩
        refine c_cond rfl (fun h3 => ?_) (fun h3 => ?_)
        · have hm := cd_t h3 hm
          refine c_seq ?_
          refine c_region ?_
          refine o_T (y_move rfl) rfl ?_
          obtain ⟨x1, c5, c6, hx3, hm⟩ := bd3 hm
          refine o_callC en_220 rfl s_nil (t220 (ho5.rd.mono (fun _ hz => (ms (ms (ms (ms (ms (ms (ms (mg hz)))))))))) hx3) rfl (fun u3 S3 hR3 => ?_)
          obtain ⟨rfl, rfl⟩ := hR3
          refine o_rest ?_
          refine o_T (y_move rfl) rfl ?_
          refine o_T (y_extract rfl rfl) rfl ?_
          refine o_T (y_extract rfl rfl) rfl ?_
          refine o_T (y_extract rfl rfl) rfl ?_
          refine o_alloc ze_172 rfl rfl (fun b5 => ?_)
          obtain ⟨z4, hn1, hm⟩ := nm_s hm
          refine o_stNA ag_172 rfl rfl (Com.plain _) (Com.len _) (Upd.refl ((Com.len _).trans (Com.len _).symm)) r0 (show (Com.enc z4) = _ from by subst hn1; rfl) ?_
          refine o_L (y_assign rfl) rfl rfl ?_
          refine o_L (y_assign rfl) rfl rfl ?_
          refine o_nil0 rfl ?_
          refine c_seq ?_
          refine c_region ?_
          refine o_T (y_move rfl) rfl ?_
          refine o_nil1 41 rfl rfl ?_
          refine c_cond rfl (fun h4 => ?_) (fun h4 => ?_)
          · have hm := cd_t h4 hm
            refine c_seq ?_
            refine c_draw #[true, true, true, true, true, true, false] rfl (n := 7) rfl ?_
            refine d_T 0 rfl sb_170_8_0 rfl (y_move rfl) rfl ?_
            refine d_T 1 rfl sb_170_8_1 rfl (y_move rfl) rfl ?_
            refine d_lda 2 rfl sb_170_8_2 ag_172 rfl (fun x hx => hx) m0 (At.exs At.refl (Com.len _)) (At.fits At.refl (Com.len _)) rfl ?_
            refine d_T 3 rfl sb_170_8_3 rfl (y_nilck rfl) rfl ?_
            refine d_T 4 rfl sb_170_8_4 rfl (y_fa fl_179_1 rfl) rfl ?_
            obtain ⟨_, hx4, hm⟩ := bd hm
            have hx4 := ckA_some hx4
            refine d_T 5 rfl sb_170_8_5 rfl (y_ia ar_173 rfl rfl hx4.1 hx4.2) rfl ?_
            refine d_hard 6 rfl sb_170_8_6 ?_
            obtain ⟨z5, hn2, hm⟩ := nm_s hm
            refine o_stNA ag_172 rfl rfl (Com.plain _) (Com.len _) ((Upd.z Graph.u_com).comp (encN_u Com.len _ _ _ hx4.1 _ hx4.2)) (rs (rs (rs (rs (rs (rs (rs (rs (rs r0))))))))) (show (Graph.enc (.pointer (some ⟨b2, 0, none⟩)) z5) = _ from by subst hn2; rfl) ?_
            refine o_stop (fun h => nomatch h) ?_
            refine d_nil0 sb_170_8_7 rfl ?_
            refine c_region ?_
            refine o_T (y_move rfl) rfl ?_
            refine o_T (y_move rfl) rfl ?_
            obtain ⟨z6, hx5, hm⟩ := bd1 hm
            refine o_callC en_215 rfl (s_skip (s_skip (s_skip (s_skip (s_skip (s_skip (s_skip (s_skip (s_skip (s_take s_nil)))))))))) (t215 hx5) rfl (fun u4 S4 hR4 => ?_)
            obtain ⟨rfl, rfl⟩ := hR4
            refine o_rest ?_
            refine o_nil0 rfl ?_
            refine c_region ?_
            refine o_T (y_move rfl) rfl ?_
            refine o_T (y_add rfl rfl rfl) rfl ?_
            refine o_L (y_assign rfl) rfl rfl ?_
            refine o_nil0 rfl ?_
            exact ⟨mm1, Nat.lt_succ_self _, _, _, ⟨_, _, rfl, rfl, hm⟩, ⟨rfl, trivial⟩, ⟨rfl, rfl⟩, _, (s_take (s_skip (s_take (s_take (s_take (s_take (s_take (s_take (s_take (s_skip (s_take s_nil)))))))))))⟩
          · have hm := cd_f h4 hm
            refine c_skip ?_
            refine c_region ?_
            refine o_T (y_move rfl) rfl ?_
            refine o_T (y_add rfl rfl rfl) rfl ?_
            refine o_L (y_assign rfl) rfl rfl ?_
            refine o_nil0 rfl ?_
            exact ⟨mm1, Nat.lt_succ_self _, _, _, ⟨_, _, rfl, rfl, hm⟩, ⟨rfl, trivial⟩, ⟨rfl, rfl⟩, _, (s_skip (s_get (ks (ks (ks (ks (ks (ks (ks (ks k0)))))))) (s_take (s_take (s_take (s_take (s_take (s_take (s_take (s_skip (s_take s_nil)))))))))))⟩
        · have hm := cd_f h3 hm
          refine c_skip ?_
          refine c_region ?_
          refine o_T (y_move rfl) rfl ?_
          refine o_T (y_add rfl rfl rfl) rfl ?_
          refine o_L (y_assign rfl) rfl rfl ?_
          refine o_nil0 rfl ?_
          exact ⟨mm1, Nat.lt_succ_self _, _, _, ⟨_, _, rfl, rfl, hm⟩, ⟨rfl, trivial⟩, ⟨rfl, rfl⟩, _, (s_get (ks (ks (ks (ks (ks (ks (ks (ks k0)))))))) (s_take (s_take (s_take (s_take (s_take (s_take (s_take (s_skip (s_take s_nil))))))))))⟩
    · have hm := cd_f h1 hm
      refine c_exit ?_
      obtain ⟨rfl, rfl⟩ := pr2 hm
      exact ⟨_, _, ⟨rfl, rfl⟩, ⟨rfl, trivial⟩, ⟨rfl, rfl⟩, _, (s_take (s_take (s_take (s_take (s_take (s_take (s_take (s_take (s_take s_nil)))))))))⟩
  · rintro sh G ⟨rfl, rfl⟩
    refine c_seq ?_
    refine c_region ?_
    refine o_T (y_move rfl) rfl ?_
    refine o_T (y_nilck rfl) rfl ?_
    refine o_T (y_fa fl_179_0 rfl) rfl ?_
    refine o_ld one_29 rfl m0 (At.got (At.refl.comp Graph.a_t)) rfl ?_
    obtain ⟨c7, hx6, hm⟩ := bd1 hm
    refine o_callC en_168 rfl (s_skip (s_take (s_take s_nil))) (t168 hx6) rfl (fun u5 S5 hR5 => ?_)
    obtain ⟨rfl, rfl⟩ := hR5
    refine o_rest ?_
    refine o_L (y_assign rfl) rfl rfl ?_
    refine o_nil0 rfl ?_
    refine c_seq ?_
    refine c_region ?_
    refine o_T (y_move rfl) rfl ?_
    refine o_T (y_nilck rfl) rfl ?_
    refine o_T (y_fa fl_179_0 rfl) rfl ?_
    refine o_ld one_29 rfl (ms (ms m0)) (At.got (At.refl.comp Graph.a_t)) rfl ?_
    refine o_T (y_move rfl) rfl ?_
    obtain ⟨c8, l2, c9, hx7, hm⟩ := bd3 hm
    refine o_callC en_219 rfl (s_take (s_take (s_skip (s_take (s_take (s_take (s_take (s_take s_nil)))))))) (t219 ho1 ho2 ho3 ho4 hx7) rfl (fun u6 S6 hR6 => ?_)
    obtain ⟨v6, g6, rfl, rfl, ho6⟩ := hR6
    refine o_rest ?_
    refine o_T (y_move rfl) rfl ?_
    refine o_T (y_extract rfl rfl) rfl ?_
    refine o_T (y_extract rfl rfl) rfl ?_
    refine o_T (y_extract rfl rfl) rfl ?_
    refine o_L (y_assign rfl) rfl rfl ?_
    refine o_L (y_assign rfl) rfl rfl ?_
    refine o_L (y_assign rfl) rfl rfl ?_
    refine o_nil0 rfl ?_
    refine c_seq ?_
    refine c_joinP (n := 0) (fun sh G => sh = [(71, .bool ((decide (c9 = 0)) && (decide (c8 = 4))))] ∧ G = []) Sel.all' .z (fun _ _ h => h) ?_ ?_
    · skip
      refine c_region ?_
      refine o_T (y_move rfl) rfl ?_
      refine o_T (y_eql rfl rfl) rfl ?_
      refine o_T (y_move rfl) rfl ?_
      refine o_split 68 rfl (fun h5 => ?_) (fun h5 => ?_)
      · skip
        refine o_take rfl rfl rfl ?_
        refine o_T (y_move rfl) rfl ?_
        refine o_take rfl rfl rfl ?_
        refine o_T (y_eql rfl rfl) rfl ?_
        refine o_T (y_pickT rfl rfl) rfl ?_
        refine o_nil1 71 rfl rfl ?_
        refine ⟨_, _, ⟨rfl, rfl⟩, ⟨by first | rfl | exact gtb rfl (by simp only [h5, Bool.true_and, Bool.false_and, Bool.true_or, Bool.false_or, Bool.and_true, Bool.and_false, Bool.or_true, Bool.or_false, Bool.not_true, Bool.not_false]), trivial⟩, ⟨rfl, rfl⟩, _, (s_take (s_take (s_take (s_take (s_take (s_take (s_take (s_take (s_take (s_take s_nil))))))))))⟩
      · skip
        refine o_pass rfl rfl rfl rfl rfl ?_
        refine o_pass rfl rfl rfl rfl rfl ?_
        refine o_T (y_pickF rfl rfl) rfl ?_
        refine o_nil1 71 rfl rfl ?_
        refine ⟨_, _, ⟨rfl, rfl⟩, ⟨by first | rfl | exact gtb rfl (by simp only [h5, Bool.true_and, Bool.false_and, Bool.true_or, Bool.false_or, Bool.and_true, Bool.and_false, Bool.or_true, Bool.or_false, Bool.not_true, Bool.not_false]), trivial⟩, ⟨rfl, rfl⟩, _, (s_take (s_take (s_take (s_take (s_take (s_take (s_take (s_take (s_take (s_take s_nil))))))))))⟩
    · rintro sh G ⟨rfl, rfl⟩
      refine c_cond rfl (fun h6 => ?_) (fun h6 => ?_)
      · have hm := cd_t h6 hm
        refine c_region ?_
        refine o_T (y_move rfl) rfl ?_
        refine o_T (y_move rfl) rfl ?_
        obtain ⟨z7, hx8, hm⟩ := bd1 hm
        refine o_callC en_249 rfl (s_skip (s_skip (s_skip (s_skip (s_skip (s_skip (s_skip (s_skip (s_take s_nil))))))))) (t249 (ho6.rd.mono (fun _ hz => (ms (ms (ms (ms (ms (ms (ms (mg hz)))))))))) hx8) rfl (fun u7 S7 hR7 => ?_)
        obtain ⟨rfl, rfl⟩ := hR7
        refine o_rest ?_
        refine o_nil0 rfl ?_
        obtain rfl := p1 hm
        refine fun aX wX heX hsX => ret0 Tryz.results170 (s_take (s_take (s_take (s_take (s_take (s_take (s_take (s_take (s_skip (s_take s_nil)))))))))) ?_
        exact ⟨rfl, rfl⟩
      · have hm := cd_f h6 hm
        refine c_skip ?_
        obtain rfl := p1 hm
        refine fun aX wX heX hsX => ret0 Tryz.results170 (s_get (ks (ks (ks (ks (ks (ks (ks (ks k0)))))))) (s_take (s_take (s_take (s_take (s_take (s_take (s_take (s_skip (s_take s_nil)))))))))) ?_
        exact ⟨rfl, rfl⟩
end Go.Proofs.Qxb6500350aGreat
