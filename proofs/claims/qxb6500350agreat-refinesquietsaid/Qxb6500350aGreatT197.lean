/- MADE BY PROGRAM (tools350/mir.py): mirror and walk. -/
import Derived.Test.Qxb6500350aGreatF2
import Derived.Test.Qxb6500350aGreatT219
import Derived.Test.Qxb6500350aGreatT220
import Derived.Test.Qxb6500350aGreatT263
import Derived.Test.Qxb6500350aGreatT168
set_option linter.unusedVariables false
set_option linter.unusedSimpArgs false
set_option maxRecDepth 20000
set_option maxHeartbeats 4000000
namespace Go.Proofs.Qxb6500350aGreat
open Go.Eng

def op_197_13 : Array Go.Oper := #[{ dst := some 55, op := Go.Op.load 172 (Go.Operand.tmp 10), type := 172, pos := "check.go:45", after := #[], guard := none }, { dst := some 56, op := Go.Op.move (Go.Operand.tmp 0), type := 30, pos := "check.go:45", after := #[], guard := none }, { dst := some 57, op := Go.Op.move (Go.Operand.tmp 5), type := 3, pos := "check.go:45", after := #[], guard := none }, { dst := some 58, op := Go.Op.nilCheck (Go.Operand.tmp 56), type := 0, pos := "check.go:45", after := #[{ on := 1, ground := Go.Ground.data }], guard := none }, { dst := some 59, op := Go.Op.fieldAddr 179 (Go.Operand.tmp 58) 1, type := 0, pos := "check.go:45", after := #[{ on := 3, ground := Go.Ground.data }], guard := none }, { dst := some 60, op := Go.Op.indexAddr 173 (Go.Operand.tmp 59) (Go.Operand.tmp 57), type := 0, pos := "check.go:45", after := #[{ on := 4, ground := Go.Ground.data }, { on := 2, ground := Go.Ground.data }], guard := none }, { dst := some 61, op := Go.Op.load 172 (Go.Operand.tmp 60), type := 172, pos := "check.go:45", after := #[{ on := 5, ground := Go.Ground.data }], guard := none }, { dst := some 62, op := Go.Op.call { callee := Go.Callee.value (Go.Operand.func 263), args := #[Go.Operand.tmp 55, Go.Operand.tmp 61], argTypes := #[172, 172] }, type := 4, pos := "check.go:45", after := #[{ on := 0, ground := Go.Ground.data }, { on := 6, ground := Go.Ground.data }], guard := none }, { dst := some 63, op := Go.Op.unOp Go.UnOp.not 4 (Go.Operand.tmp 62), type := 4, pos := "check.go:45", after := #[{ on := 7, ground := Go.Ground.data }], guard := none }]
theorem sb_197_13_0 : softB op_197_13 #[true, true, true, true, true, true, true, false, true] (Array.replicate 9 false) 0 = true := by kernel_rfl
theorem sb_197_13_1 : softB op_197_13 #[true, true, true, true, true, true, true, false, true] ((Array.replicate 9 false).setIfInBounds 0 true) 1 = true := by kernel_rfl
theorem sb_197_13_2 : softB op_197_13 #[true, true, true, true, true, true, true, false, true] (((Array.replicate 9 false).setIfInBounds 0 true).setIfInBounds 1 true) 2 = true := by kernel_rfl
theorem sb_197_13_3 : softB op_197_13 #[true, true, true, true, true, true, true, false, true] ((((Array.replicate 9 false).setIfInBounds 0 true).setIfInBounds 1 true).setIfInBounds 2 true) 3 = true := by kernel_rfl
theorem sb_197_13_4 : softB op_197_13 #[true, true, true, true, true, true, true, false, true] (((((Array.replicate 9 false).setIfInBounds 0 true).setIfInBounds 1 true).setIfInBounds 2 true).setIfInBounds 3 true) 4 = true := by kernel_rfl
theorem sb_197_13_5 : softB op_197_13 #[true, true, true, true, true, true, true, false, true] ((((((Array.replicate 9 false).setIfInBounds 0 true).setIfInBounds 1 true).setIfInBounds 2 true).setIfInBounds 3 true).setIfInBounds 4 true) 5 = true := by kernel_rfl
theorem sb_197_13_6 : softB op_197_13 #[true, true, true, true, true, true, true, false, true] (((((((Array.replicate 9 false).setIfInBounds 0 true).setIfInBounds 1 true).setIfInBounds 2 true).setIfInBounds 3 true).setIfInBounds 4 true).setIfInBounds 5 true) 6 = true := by kernel_rfl
theorem sb_197_13_7 : hardB op_197_13 ((((((((Array.replicate 9 false).setIfInBounds 0 true).setIfInBounds 1 true).setIfInBounds 2 true).setIfInBounds 3 true).setIfInBounds 4 true).setIfInBounds 5 true).setIfInBounds 6 true) [7] = true := by kernel_rfl
theorem sb_197_13_8 : softB op_197_13 #[true, true, true, true, true, true, true, false, true] (((((((((Array.replicate 9 false).setIfInBounds 0 true).setIfInBounds 1 true).setIfInBounds 2 true).setIfInBounds 3 true).setIfInBounds 4 true).setIfInBounds 5 true).setIfInBounds 6 true).setIfInBounds 7 true) 8 = true := by kernel_rfl
theorem sb_197_13_9 : hardB op_197_13 ((((((((((Array.replicate 9 false).setIfInBounds 0 true).setIfInBounds 1 true).setIfInBounds 2 true).setIfInBounds 3 true).setIfInBounds 4 true).setIfInBounds 5 true).setIfInBounds 6 true).setIfInBounds 7 true).setIfInBounds 8 true) [] = true := by kernel_rfl
/- (*graph.Graph).tableFine -/
def m197_w1 (n : Nat) (g : Graph) (t : Trees) (s : Store) (d : Dev) (mm : Nat) : Int → Int → Int → Option (Flow (Bool) (Int × Int × Int)) := it3 (fun lp1 c1 c2 c3 =>
cond (decide (c3 ≤ 48)) (
ob3 (m219 n t s d c3) fun c7 l1 c8 =>
Option.bind (ckA c3 49) fun _ =>
cond (((decide (c8 = 0)) && (decide (c7 = 3))) != (g.com c3).used) (
Option.bind (some false) fun q1 => some (.ret q1)) (
cond ((decide (c8 = 0)) && (decide (c7 = 3))) (
ob3 (m220 n l1) fun x1 c9 c10 =>
nm (x1 : Com) fun z1 =>
cond (!c10) (
Option.bind (some false) fun q2 => some (.ret q2)) (
Option.bind (ckA c3 49) fun _ =>
ob1 (m263 n z1 (g.com c3)) fun c11 =>
cond (!c11) (
Option.bind (some false) fun q3 => some (.ret q3)) (
cond ((decide (c8 = 0)) && (decide (c7 = 4))) (
lp1 (wi (c1 + 1)) (wi (c2 + 1)) (wi (c3 + 1))) (
lp1 c1 (wi (c2 + 1)) (wi (c3 + 1)))))) (
cond ((decide (c8 = 0)) && (decide (c7 = 4))) (
lp1 (wi (c1 + 1)) c2 (wi (c3 + 1))) (
lp1 c1 c2 (wi (c3 + 1)))))) (
some (.nx (c1, c2, c3)))) mm
def m197 (n : Nat) (g : Graph) (t : Trees) (s : Store) (d : Dev) : Option (Bool) :=
flow (m197_w1 n g t s d n 0 0 1) some (un3 fun c4 c5 c6 =>
cond ((decide (¬ (c4 = 1))) || (decide (¬ (c5 = g.n)))) (
some false) (
ob1 (m168 n t s) fun c12 =>
ob3 (m219 n t s d c12) fun c13 l2 c14 =>
some ((decide (c14 = 0)) && (decide (c13 = 4)))))
theorem t197 {n : Nat} {C : List Chunk} {rc1 : Bool} {b1 : Nat} {g : Graph} {b2 : Nat} {t : Trees} {b3 : Nat} {s : Store} {b4 : Nat} {d : Dev} {v1 : Value} {g1 : List Chunk} {v2 : Value} {g2 : List Chunk} {v3 : Value} {g3 : List Chunk} {v4 : Value} {g4 : List Chunk} (ho1 : Own rByte v1 d.blk g1) (ho2 : Own rByte v2 d.base g2) (ho3 : Own rInt v3 d.at_ g3) (ho4 : Own rByte v4 d.data g4)  (hm : m197 n g t s d = some rc1) : Trip Tryz.prog 197 #[.pointer (some ⟨b1, 0, none⟩)] ([[(b1, .cells (Graph.enc (.pointer (some ⟨b2, 0, none⟩)) g).toArray 179 (0, 0))], [(b2, .cells (Trees.enc (.pointer (some ⟨b3, 0, none⟩)) t).toArray 169 (0, 0))], [(b3, .cells (Store.enc (.pointer (some ⟨b4, 0, none⟩)) s).toArray 126 (0, 0))], [(b4, .cells (Dev.enc (v1) (v2) (v3) (v4) d).toArray 85 (0, 0))], g1, g2, g3, g4] ++ [C]) (fun u S' => .bool rc1 = u ∧ S' = [[(b1, .cells (Graph.enc (.pointer (some ⟨b2, 0, none⟩)) g).toArray 179 (0, 0))], [(b2, .cells (Trees.enc (.pointer (some ⟨b3, 0, none⟩)) t).toArray 169 (0, 0))], [(b3, .cells (Store.enc (.pointer (some ⟨b4, 0, none⟩)) s).toArray 126 (0, 0))], [(b4, .cells (Dev.enc (v1) (v2) (v3) (v4) d).toArray 85 (0, 0))], g1, g2, g3, g4] ++ [C]) := by
  refine fn_entry (args := [.pointer (some ⟨b1, 0, none⟩)]) Tryz.func197 rfl Tryz.ntmps197 rfl (fun w0 => ?_)
  refine c_seq ?_
  refine c_region ?_
  refine o_L (y_assign rfl) rfl rfl ?_
  refine o_nil0 rfl ?_
  refine c_seq ?_
  refine c_region ?_
  refine o_L (y_assign rfl) rfl rfl ?_
  refine o_L (y_assign rfl) rfl rfl ?_
  refine o_nil0 rfl ?_
  refine c_seq ?_
  refine c_seq ?_
  refine c_region ?_
  refine o_L (y_assign rfl) rfl rfl ?_
  refine o_nil0 rfl ?_
  obtain ⟨f1, F1, hF1, hj1, hF2⟩ := fl2 hm
  refine c_joinP (n := 0) (fun sh G => ∃ (c4 : Int), ∃ (c5 : Int), ∃ (c6 : Int), sh = [(3, .int .i64 c4), (4, .int .i64 c5), (5, .int .i64 c6)] ∧ G = [] ∧ F1 (c4, c5, c6) = some rc1) (s_take (s_take (s_take (s_take (s_take (s_take (s_take (s_take (s_take s_nil))))))))) .z (fun _ _ h => h) ?_ ?_
  · skip
    refine c_block ?_
    refine c_loopP (n := 0) (fun mm sh G => ∃ (c1 : Int), ∃ (c2 : Int), ∃ (c3 : Int), sh = [(3, .int .i64 c1), (4, .int .i64 c2), (5, .int .i64 c3)] ∧ G = [] ∧ m197_w1 n g t s d mm c1 c2 c3 = some f1) n (s_take (s_take (s_take (s_take (s_take (s_take (s_take (s_take (s_take s_nil))))))))) .z ⟨_, _, ⟨_, _, _, rfl, rfl, hj1⟩, ⟨rfl, rfl, rfl, trivial⟩, _, (s_take (s_take (s_take (s_take (s_take (s_take (s_take (s_take (s_take s_nil)))))))))⟩ ?_
    rintro mm sh G ⟨c1, c2, c3, rfl, rfl, hm⟩
    obtain ⟨mm1, rfl, hm⟩ := it3_s hm
    refine c_seq ?_
    refine c_seq ?_
    refine c_region ?_
    refine o_T (y_move rfl) rfl ?_
    refine o_T (y_leq rfl rfl) rfl ?_
    refine o_nil1 18 rfl rfl ?_
    refine c_cond rfl (fun h1 => ?_) (fun h1 => ?_)
    · have hm := cd_t h1 hm
      refine c_skip ?_
      refine c_seq ?_
      refine c_block ?_
      refine c_seq ?_
      refine c_region ?_
      refine o_T (y_move rfl) rfl ?_
      refine o_T (y_nilck rfl) rfl ?_
      refine o_T (y_fa fl_179_0 rfl) rfl ?_
      refine o_ld one_29 rfl m0 (At.got (At.refl.comp Graph.a_t)) rfl ?_
      refine o_T (y_move rfl) rfl ?_
      obtain ⟨c7, l1, c8, hx1, hm⟩ := bd3 hm
      refine o_callC en_219 rfl (s_skip (s_take (s_take (s_take (s_take (s_take (s_take (s_take s_nil)))))))) (t219 ho1 ho2 ho3 ho4 hx1) rfl (fun u1 S1 hR1 => ?_)
      obtain ⟨v5, g5, rfl, rfl, ho5⟩ := hR1
      refine o_rest ?_
      refine o_T (y_move rfl) rfl ?_
      refine o_T (y_extract rfl rfl) rfl ?_
      refine o_T (y_extract rfl rfl) rfl ?_
      refine o_T (y_extract rfl rfl) rfl ?_
      refine o_L (y_assign rfl) rfl rfl ?_
      refine o_L (y_assign rfl) rfl rfl ?_
      refine o_L (y_assign rfl) rfl rfl ?_
      refine o_nil0 rfl ?_
      refine c_seq ?_
      refine c_joinP (n := 0) (fun sh G => sh = [(9, .bool ((decide (c8 = 0)) && (decide (c7 = 3))))] ∧ G = []) Sel.all' .z (fun _ _ h => h) ?_ ?_
      · skip
        refine c_region ?_
        refine o_T (y_move rfl) rfl ?_
        refine o_T (y_eql rfl rfl) rfl ?_
        refine o_T (y_move rfl) rfl ?_
        refine o_split 33 rfl (fun h2 => ?_) (fun h2 => ?_)
        · skip
          refine o_take rfl rfl rfl ?_
          refine o_T (y_move rfl) rfl ?_
          refine o_take rfl rfl rfl ?_
          refine o_T (y_eql rfl rfl) rfl ?_
          refine o_T (y_pickT rfl rfl) rfl ?_
          refine o_L (y_assign rfl) rfl rfl ?_
          refine o_nil0 rfl ?_
          refine ⟨_, _, ⟨rfl, rfl⟩, ⟨by first | rfl | exact gtb rfl (by simp only [h2, Bool.true_and, Bool.false_and, Bool.true_or, Bool.false_or, Bool.and_true, Bool.and_false, Bool.or_true, Bool.or_false, Bool.not_true, Bool.not_false]), trivial⟩, ⟨rfl, rfl⟩, _, (s_take (s_take (s_take (s_take (s_take (s_take (s_take (s_take (s_take (s_take s_nil))))))))))⟩
        · skip
          refine o_pass rfl rfl rfl rfl rfl ?_
          refine o_pass rfl rfl rfl rfl rfl ?_
          refine o_T (y_pickF rfl rfl) rfl ?_
          refine o_L (y_assign rfl) rfl rfl ?_
          refine o_nil0 rfl ?_
          refine ⟨_, _, ⟨rfl, rfl⟩, ⟨by first | rfl | exact gtb rfl (by simp only [h2, Bool.true_and, Bool.false_and, Bool.true_or, Bool.false_or, Bool.and_true, Bool.and_false, Bool.or_true, Bool.or_false, Bool.not_true, Bool.not_false]), trivial⟩, ⟨rfl, rfl⟩, _, (s_take (s_take (s_take (s_take (s_take (s_take (s_take (s_take (s_take (s_take s_nil))))))))))⟩
      · rintro sh G ⟨rfl, rfl⟩
        refine c_seq ?_
        refine c_seq ?_
        refine c_region ?_
        refine o_T (y_move rfl) rfl ?_
        refine o_T (y_move rfl) rfl ?_
        refine o_T (y_move rfl) rfl ?_
        refine o_T (y_nilck rfl) rfl ?_
        refine o_T (y_fa fl_179_1 rfl) rfl ?_
        obtain ⟨_, hx2, hm⟩ := bd hm
        have hx2 := ckA_some hx2
        refine o_T (y_ia ar_173 rfl rfl hx2.1 hx2.2) rfl ?_
        refine o_T (y_fa fl_172_0 rfl) rfl ?_
        refine o_ld one_4 rfl (ms (ms (ms (ms (ms (ms (ms (ms m0)))))))) (At.got (((At.refl.comp Graph.a_com).comp (encN_a Com.len _ _ hx2.1 _ hx2.2)).comp Com.a_used)) rfl ?_
        refine o_T (y_bne Tryz.underlying4 rfl rfl) rfl ?_
        refine o_nil1 45 rfl rfl ?_
        refine c_cond rfl (fun h3 => ?_) (fun h3 => ?_)
        · have hm := cd_t h3 hm
          refine c_seq ?_
          refine c_region ?_
          refine o_L (y_assign rfl) rfl rfl ?_
          refine o_nil0 rfl ?_
          refine c_ret ?_
          obtain ⟨q1, hq1, hm⟩ := bd hm
          have hm := fl_ret hm hF2
          have hm := hq1.trans hm
          obtain rfl := p1 hm
          refine fun aX wX heX hsX => ret1 Tryz.results197 heX rfl (s_get (ks (ks (ks (ks (ks (ks (ks (ks k0)))))))) (s_take (s_take (s_take (s_take (s_take (s_take (s_take (s_skip (s_take s_nil)))))))))) ?_
          exact ⟨rfl, rfl⟩
        · have hm := cd_f h3 hm
          refine c_skip ?_
          refine c_seq ?_
          refine c_seq ?_
          refine c_region ?_
          refine o_T (y_move rfl) rfl ?_
          refine o_nil1 46 rfl rfl ?_
          refine c_cond rfl (fun h4 => ?_) (fun h4 => ?_)
          · have hm := cd_t h4 hm
            refine c_seq ?_
            refine c_region ?_
            refine o_T (y_move rfl) rfl ?_
            obtain ⟨x1, c9, c10, hx3, hm⟩ := bd3 hm
            refine o_callC en_220 rfl s_nil (t220 (ho5.rd.mono (fun _ hz => (ms (ms (ms (ms (ms (ms (ms (mg hz)))))))))) hx3) rfl (fun u2 S2 hR2 => ?_)
            obtain ⟨rfl, rfl⟩ := hR2
            refine o_rest ?_
            refine o_T (y_move rfl) rfl ?_
            refine o_T (y_extract rfl rfl) rfl ?_
            refine o_T (y_extract rfl rfl) rfl ?_
            refine o_T (y_extract rfl rfl) rfl ?_
            refine o_alloc ze_172 rfl rfl (fun b5 => ?_)
            obtain ⟨z1, hn1, hm⟩ := nm_s hm
            refine o_stNA ag_172 rfl rfl (Com.plain _) (Com.len _) (Upd.refl ((Com.len _).trans (Com.len _).symm)) r0 (show (Com.enc z1) = _ from by subst hn1; rfl) ?_
            refine o_L (y_assign rfl) rfl rfl ?_
            refine o_L (y_assign rfl) rfl rfl ?_
            refine o_nil0 rfl ?_
            refine c_seq ?_
            refine c_seq ?_
            refine c_region ?_
            refine o_T (y_move rfl) rfl ?_
            refine o_T (y_not rfl) rfl ?_
            refine o_nil1 54 rfl rfl ?_
            refine c_cond rfl (fun h5 => ?_) (fun h5 => ?_)
            · have hm := cd_t h5 hm
              refine c_seq ?_
              refine c_region ?_
              refine o_L (y_assign rfl) rfl rfl ?_
              refine o_nil0 rfl ?_
              refine c_ret ?_
              obtain ⟨q2, hq2, hm⟩ := bd hm
              have hm := fl_ret hm hF2
              have hm := hq2.trans hm
              obtain rfl := p1 hm
              refine fun aX wX heX hsX => ret1 Tryz.results197 heX rfl (s_skip (s_get (ks (ks (ks (ks (ks (ks (ks (ks k0)))))))) (s_take (s_take (s_take (s_take (s_take (s_take (s_take (s_skip (s_take s_nil))))))))))) ?_
              exact ⟨rfl, rfl⟩
            · have hm := cd_f h5 hm
              refine c_skip ?_
              refine c_seq ?_
              refine c_seq ?_
              refine c_draw #[true, true, true, true, true, true, true, false, true] rfl (n := 9) rfl ?_
              refine d_lda 0 rfl sb_197_13_0 ag_172 rfl (fun x hx => hx) m0 (At.exs At.refl (Com.len _)) (At.fits At.refl (Com.len _)) rfl ?_
              refine d_T 1 rfl sb_197_13_1 rfl (y_move rfl) rfl ?_
              refine d_T 2 rfl sb_197_13_2 rfl (y_move rfl) rfl ?_
              refine d_T 3 rfl sb_197_13_3 rfl (y_nilck rfl) rfl ?_
              refine d_T 4 rfl sb_197_13_4 rfl (y_fa fl_179_1 rfl) rfl ?_
              obtain ⟨_, hx4, hm⟩ := bd hm
              have hx4 := ckA_some hx4
              refine d_T 5 rfl sb_197_13_5 rfl (y_ia ar_173 rfl rfl hx4.1 hx4.2) rfl ?_
              refine d_lda 6 rfl sb_197_13_6 ag_172 rfl (fun x hx => hx) (ms (ms (ms (ms (ms (ms (ms (ms (ms m0))))))))) (At.exs ((At.refl.comp Graph.a_com).comp (encN_a Com.len _ _ hx4.1 _ hx4.2)) (Com.len _)) (At.fits ((At.refl.comp Graph.a_com).comp (encN_a Com.len _ _ hx4.1 _ hx4.2)) (Com.len _)) rfl ?_
              refine d_hard 7 rfl sb_197_13_7 ?_
              obtain ⟨c11, hx5, hm⟩ := bd1 hm
              refine o_callC en_263 rfl s_nil (t263 hx5) rfl (fun u3 S3 hR3 => ?_)
              obtain ⟨rfl, rfl⟩ := hR3
              refine o_rest ?_
              refine o_stop (fun h => nomatch h) ?_
              refine d_T 8 rfl sb_197_13_8 rfl (y_not rfl) rfl ?_
              refine d_nil1 63 sb_197_13_9 rfl rfl ?_
              refine c_cond rfl (fun h6 => ?_) (fun h6 => ?_)
              · have hm := cd_t h6 hm
                refine c_seq ?_
                refine c_region ?_
                refine o_L (y_assign rfl) rfl rfl ?_
                refine o_nil0 rfl ?_
                refine c_ret ?_
                obtain ⟨q3, hq3, hm⟩ := bd hm
                have hm := fl_ret hm hF2
                have hm := hq3.trans hm
                obtain rfl := p1 hm
                refine fun aX wX heX hsX => ret1 Tryz.results197 heX rfl (s_skip (s_get (ks (ks (ks (ks (ks (ks (ks (ks k0)))))))) (s_take (s_take (s_take (s_take (s_take (s_take (s_take (s_skip (s_take s_nil))))))))))) ?_
                exact ⟨rfl, rfl⟩
              · have hm := cd_f h6 hm
                refine c_skip ?_
                refine c_region ?_
                refine o_T (y_move rfl) rfl ?_
                refine o_T (y_add rfl rfl rfl) rfl ?_
                refine o_L (y_assign rfl) rfl rfl ?_
                refine o_nil0 rfl ?_
                refine c_seq ?_
                refine c_joinP (n := 0) (fun sh G => sh = [(71, .bool ((decide (c8 = 0)) && (decide (c7 = 4))))] ∧ G = []) Sel.all' .z (fun _ _ h => h) ?_ ?_
                · skip
                  refine c_region ?_
                  refine o_T (y_move rfl) rfl ?_
                  refine o_T (y_eql rfl rfl) rfl ?_
                  refine o_T (y_move rfl) rfl ?_
                  refine o_split 68 rfl (fun h7 => ?_) (fun h7 => ?_)
                  · skip
                    refine o_take rfl rfl rfl ?_
                    refine o_T (y_move rfl) rfl ?_
                    refine o_take rfl rfl rfl ?_
                    refine o_T (y_eql rfl rfl) rfl ?_
                    refine o_T (y_pickT rfl rfl) rfl ?_
                    refine o_nil1 71 rfl rfl ?_
                    refine ⟨_, _, ⟨rfl, rfl⟩, ⟨by first | rfl | exact gtb rfl (by simp only [h7, Bool.true_and, Bool.false_and, Bool.true_or, Bool.false_or, Bool.and_true, Bool.and_false, Bool.or_true, Bool.or_false, Bool.not_true, Bool.not_false]), trivial⟩, ⟨rfl, rfl⟩, _, (s_take (s_take (s_take (s_take (s_take (s_take (s_take (s_take (s_take (s_take (s_take s_nil)))))))))))⟩
                  · skip
                    refine o_pass rfl rfl rfl rfl rfl ?_
                    refine o_pass rfl rfl rfl rfl rfl ?_
                    refine o_T (y_pickF rfl rfl) rfl ?_
                    refine o_nil1 71 rfl rfl ?_
                    refine ⟨_, _, ⟨rfl, rfl⟩, ⟨by first | rfl | exact gtb rfl (by simp only [h7, Bool.true_and, Bool.false_and, Bool.true_or, Bool.false_or, Bool.and_true, Bool.and_false, Bool.or_true, Bool.or_false, Bool.not_true, Bool.not_false]), trivial⟩, ⟨rfl, rfl⟩, _, (s_take (s_take (s_take (s_take (s_take (s_take (s_take (s_take (s_take (s_take (s_take s_nil)))))))))))⟩
                · rintro sh G ⟨rfl, rfl⟩
                  refine c_cond rfl (fun h8 => ?_) (fun h8 => ?_)
                  · have hm := cd_t h8 hm
                    refine c_region ?_
                    refine o_T (y_move rfl) rfl ?_
                    refine o_T (y_add rfl rfl rfl) rfl ?_
                    refine o_L (y_assign rfl) rfl rfl ?_
                    refine o_nil0 rfl ?_
                    refine c_region ?_
                    refine o_T (y_move rfl) rfl ?_
                    refine o_T (y_add rfl rfl rfl) rfl ?_
                    refine o_L (y_assign rfl) rfl rfl ?_
                    refine o_nil0 rfl ?_
                    exact ⟨mm1, Nat.lt_succ_self _, _, _, ⟨_, _, _, rfl, rfl, hm⟩, ⟨rfl, rfl, rfl, trivial⟩, ⟨rfl, rfl⟩, _, (s_skip (s_get (ks (ks (ks (ks (ks (ks (ks (ks k0)))))))) (s_take (s_take (s_take (s_take (s_take (s_take (s_take (s_skip (s_take s_nil)))))))))))⟩
                  · have hm := cd_f h8 hm
                    refine c_skip ?_
                    refine c_region ?_
                    refine o_T (y_move rfl) rfl ?_
                    refine o_T (y_add rfl rfl rfl) rfl ?_
                    refine o_L (y_assign rfl) rfl rfl ?_
                    refine o_nil0 rfl ?_
                    exact ⟨mm1, Nat.lt_succ_self _, _, _, ⟨_, _, _, rfl, rfl, hm⟩, ⟨rfl, rfl, rfl, trivial⟩, ⟨rfl, rfl⟩, _, (s_skip (s_get (ks (ks (ks (ks (ks (ks (ks (ks k0)))))))) (s_take (s_take (s_take (s_take (s_take (s_take (s_take (s_skip (s_take s_nil)))))))))))⟩
          · have hm := cd_f h4 hm
            refine c_skip ?_
            refine c_seq ?_
            refine c_joinP (n := 0) (fun sh G => sh = [(71, .bool ((decide (c8 = 0)) && (decide (c7 = 4))))] ∧ G = []) Sel.all' .z (fun _ _ h => h) ?_ ?_
            · skip
              refine c_region ?_
              refine o_T (y_move rfl) rfl ?_
              refine o_T (y_eql rfl rfl) rfl ?_
              refine o_T (y_move rfl) rfl ?_
              refine o_split 68 rfl (fun h9 => ?_) (fun h9 => ?_)
              · skip
                refine o_take rfl rfl rfl ?_
                refine o_T (y_move rfl) rfl ?_
                refine o_take rfl rfl rfl ?_
                refine o_T (y_eql rfl rfl) rfl ?_
                refine o_T (y_pickT rfl rfl) rfl ?_
                refine o_nil1 71 rfl rfl ?_
                refine ⟨_, _, ⟨rfl, rfl⟩, ⟨by first | rfl | exact gtb rfl (by simp only [h9, Bool.true_and, Bool.false_and, Bool.true_or, Bool.false_or, Bool.and_true, Bool.and_false, Bool.or_true, Bool.or_false, Bool.not_true, Bool.not_false]), trivial⟩, ⟨rfl, rfl⟩, _, (s_take (s_take (s_take (s_take (s_take (s_take (s_take (s_take (s_take (s_take s_nil))))))))))⟩
              · skip
                refine o_pass rfl rfl rfl rfl rfl ?_
                refine o_pass rfl rfl rfl rfl rfl ?_
                refine o_T (y_pickF rfl rfl) rfl ?_
                refine o_nil1 71 rfl rfl ?_
                refine ⟨_, _, ⟨rfl, rfl⟩, ⟨by first | rfl | exact gtb rfl (by simp only [h9, Bool.true_and, Bool.false_and, Bool.true_or, Bool.false_or, Bool.and_true, Bool.and_false, Bool.or_true, Bool.or_false, Bool.not_true, Bool.not_false]), trivial⟩, ⟨rfl, rfl⟩, _, (s_take (s_take (s_take (s_take (s_take (s_take (s_take (s_take (s_take (s_take s_nil))))))))))⟩
            · rintro sh G ⟨rfl, rfl⟩
              refine c_cond rfl (fun h10 => ?_) (fun h10 => ?_)
              · have hm := cd_t h10 hm
                refine c_region ?_
                refine o_T (y_move rfl) rfl ?_
                refine o_T (y_add rfl rfl rfl) rfl ?_
                refine o_L (y_assign rfl) rfl rfl ?_
                refine o_nil0 rfl ?_
                refine c_region ?_
                refine o_T (y_move rfl) rfl ?_
                refine o_T (y_add rfl rfl rfl) rfl ?_
                refine o_L (y_assign rfl) rfl rfl ?_
                refine o_nil0 rfl ?_
                exact ⟨mm1, Nat.lt_succ_self _, _, _, ⟨_, _, _, rfl, rfl, hm⟩, ⟨rfl, rfl, rfl, trivial⟩, ⟨rfl, rfl⟩, _, (s_get (ks (ks (ks (ks (ks (ks (ks (ks k0)))))))) (s_take (s_take (s_take (s_take (s_take (s_take (s_take (s_skip (s_take s_nil))))))))))⟩
              · have hm := cd_f h10 hm
                refine c_skip ?_
                refine c_region ?_
                refine o_T (y_move rfl) rfl ?_
                refine o_T (y_add rfl rfl rfl) rfl ?_
                refine o_L (y_assign rfl) rfl rfl ?_
                refine o_nil0 rfl ?_
                exact ⟨mm1, Nat.lt_succ_self _, _, _, ⟨_, _, _, rfl, rfl, hm⟩, ⟨rfl, rfl, rfl, trivial⟩, ⟨rfl, rfl⟩, _, (s_get (ks (ks (ks (ks (ks (ks (ks (ks k0)))))))) (s_take (s_take (s_take (s_take (s_take (s_take (s_take (s_skip (s_take s_nil))))))))))⟩
    · have hm := cd_f h1 hm
      refine c_exit ?_
      have hm := fl_nx hm hF2
      exact ⟨_, _, ⟨_, _, _, rfl, rfl, hm⟩, ⟨rfl, rfl, rfl, trivial⟩, ⟨rfl, rfl⟩, _, (s_take (s_take (s_take (s_take (s_take (s_take (s_take (s_take (s_take s_nil)))))))))⟩
  · rintro sh G ⟨c4, c5, c6, rfl, rfl, hm⟩
    subst hF1
    refine c_seq ?_
    refine c_seq ?_
    refine c_joinP (n := 0) (fun sh G => sh = [(83, .bool ((decide (¬ (c4 = 1))) || (decide (¬ (c5 = g.n)))))] ∧ G = []) Sel.all' .z (fun _ _ h => h) ?_ ?_
    · skip
      refine c_region ?_
      refine o_T (y_move rfl) rfl ?_
      refine o_T (y_neq rfl rfl) rfl ?_
      refine o_T (y_move rfl) rfl ?_
      refine o_split 76 rfl (fun h11 => ?_) (fun h11 => ?_)
      · skip
        refine o_pass rfl rfl rfl rfl rfl ?_
        refine o_pass rfl rfl rfl rfl rfl ?_
        refine o_pass rfl rfl rfl rfl rfl ?_
        refine o_pass rfl rfl rfl rfl rfl ?_
        refine o_pass rfl rfl rfl rfl rfl ?_
        refine o_pass rfl rfl rfl rfl rfl ?_
        refine o_T (y_pickT rfl rfl) rfl ?_
        refine o_nil1 83 rfl rfl ?_
        refine ⟨_, _, ⟨rfl, rfl⟩, ⟨by first | rfl | exact gtb rfl (by simp only [h11, Bool.true_and, Bool.false_and, Bool.true_or, Bool.false_or, Bool.and_true, Bool.and_false, Bool.or_true, Bool.or_false, Bool.not_true, Bool.not_false]), trivial⟩, ⟨rfl, rfl⟩, _, (s_take (s_take (s_take (s_take (s_take (s_take (s_take (s_take (s_take s_nil)))))))))⟩
      · skip
        refine o_take rfl rfl rfl ?_
        refine o_T (y_move rfl) rfl ?_
        refine o_take rfl rfl rfl ?_
        refine o_T (y_move rfl) rfl ?_
        refine o_take rfl rfl rfl ?_
        refine o_T (y_nilck rfl) rfl ?_
        refine o_take rfl rfl rfl ?_
        refine o_T (y_fa fl_179_3 rfl) rfl ?_
        refine o_take rfl rfl rfl ?_
        refine o_ld one_3 rfl m0 (At.got (At.refl.comp Graph.a_n)) rfl ?_
        refine o_take rfl rfl rfl ?_
        refine o_T (y_neq rfl rfl) rfl ?_
        refine o_T (y_pickF rfl rfl) rfl ?_
        refine o_nil1 83 rfl rfl ?_
        refine ⟨_, _, ⟨rfl, rfl⟩, ⟨by first | rfl | exact gtb rfl (by simp only [h11, Bool.true_and, Bool.false_and, Bool.true_or, Bool.false_or, Bool.and_true, Bool.and_false, Bool.or_true, Bool.or_false, Bool.not_true, Bool.not_false]), trivial⟩, ⟨rfl, rfl⟩, _, (s_take (s_take (s_take (s_take (s_take (s_take (s_take (s_take (s_take s_nil)))))))))⟩
    · rintro sh G ⟨rfl, rfl⟩
      refine c_cond rfl (fun h12 => ?_) (fun h12 => ?_)
      · have hm := cd_t h12 hm
        refine c_seq ?_
        refine c_region ?_
        refine o_L (y_assign rfl) rfl rfl ?_
        refine o_nil0 rfl ?_
        refine c_ret ?_
        obtain rfl := p1 hm
        refine fun aX wX heX hsX => ret1 Tryz.results197 heX rfl (s_take (s_take (s_take (s_take (s_take (s_take (s_take (s_take (s_take s_nil))))))))) ?_
        exact ⟨rfl, rfl⟩
      · have hm := cd_f h12 hm
        refine c_skip ?_
        refine c_seq ?_
        refine c_region ?_
        refine o_T (y_move rfl) rfl ?_
        refine o_T (y_nilck rfl) rfl ?_
        refine o_T (y_fa fl_179_0 rfl) rfl ?_
        refine o_ld one_29 rfl m0 (At.got (At.refl.comp Graph.a_t)) rfl ?_
        obtain ⟨c12, hx6, hm⟩ := bd1 hm
        refine o_callC en_168 rfl (s_skip (s_take (s_take s_nil))) (t168 hx6) rfl (fun u4 S4 hR4 => ?_)
        obtain ⟨rfl, rfl⟩ := hR4
        refine o_rest ?_
        refine o_L (y_assign rfl) rfl rfl ?_
        refine o_nil0 rfl ?_
        refine c_seq ?_
        refine c_region ?_
        refine o_T (y_move rfl) rfl ?_
        refine o_T (y_nilck rfl) rfl ?_
        refine o_T (y_fa fl_179_0 rfl) rfl ?_
        refine o_ld one_29 rfl (ms (ms m0)) (At.got (At.refl.comp Graph.a_t)) rfl ?_
        refine o_T (y_move rfl) rfl ?_
        obtain ⟨c13, l2, c14, hx7, hm⟩ := bd3 hm
        refine o_callC en_219 rfl (s_take (s_take (s_skip (s_take (s_take (s_take (s_take (s_take s_nil)))))))) (t219 ho1 ho2 ho3 ho4 hx7) rfl (fun u5 S5 hR5 => ?_)
        obtain ⟨v6, g6, rfl, rfl, ho6⟩ := hR5
        refine o_rest ?_
        refine o_T (y_move rfl) rfl ?_
        refine o_T (y_extract rfl rfl) rfl ?_
        refine o_T (y_extract rfl rfl) rfl ?_
        refine o_T (y_extract rfl rfl) rfl ?_
        refine o_L (y_assign rfl) rfl rfl ?_
        refine o_L (y_assign rfl) rfl rfl ?_
        refine o_L (y_assign rfl) rfl rfl ?_
        refine o_nil0 rfl ?_
        refine c_seq ?_
        refine c_joinP (n := 0) (fun sh G => sh = [(2, .bool ((decide (c14 = 0)) && (decide (c13 = 4))))] ∧ G = []) Sel.all' .z (fun _ _ h => h) ?_ ?_
        · skip
          refine c_region ?_
          refine o_T (y_move rfl) rfl ?_
          refine o_T (y_eql rfl rfl) rfl ?_
          refine o_T (y_move rfl) rfl ?_
          refine o_split 101 rfl (fun h13 => ?_) (fun h13 => ?_)
          · skip
            refine o_take rfl rfl rfl ?_
            refine o_T (y_move rfl) rfl ?_
            refine o_take rfl rfl rfl ?_
            refine o_T (y_eql rfl rfl) rfl ?_
            refine o_T (y_pickT rfl rfl) rfl ?_
            refine o_L (y_assign rfl) rfl rfl ?_
            refine o_nil0 rfl ?_
            refine ⟨_, _, ⟨rfl, rfl⟩, ⟨by first | rfl | exact gtb rfl (by simp only [h13, Bool.true_and, Bool.false_and, Bool.true_or, Bool.false_or, Bool.and_true, Bool.and_false, Bool.or_true, Bool.or_false, Bool.not_true, Bool.not_false]), trivial⟩, ⟨rfl, rfl⟩, _, (s_take (s_take (s_take (s_take (s_take (s_take (s_take (s_take (s_take (s_take s_nil))))))))))⟩
          · skip
            refine o_pass rfl rfl rfl rfl rfl ?_
            refine o_pass rfl rfl rfl rfl rfl ?_
            refine o_T (y_pickF rfl rfl) rfl ?_
            refine o_L (y_assign rfl) rfl rfl ?_
            refine o_nil0 rfl ?_
            refine ⟨_, _, ⟨rfl, rfl⟩, ⟨by first | rfl | exact gtb rfl (by simp only [h13, Bool.true_and, Bool.false_and, Bool.true_or, Bool.false_or, Bool.and_true, Bool.and_false, Bool.or_true, Bool.or_false, Bool.not_true, Bool.not_false]), trivial⟩, ⟨rfl, rfl⟩, _, (s_take (s_take (s_take (s_take (s_take (s_take (s_take (s_take (s_take (s_take s_nil))))))))))⟩
        · rintro sh G ⟨rfl, rfl⟩
          refine c_ret ?_
          obtain rfl := p1 hm
          refine fun aX wX heX hsX => ret1 Tryz.results197 heX rfl (s_get (ks (ks (ks (ks (ks (ks (ks (ks k0)))))))) (s_take (s_take (s_take (s_take (s_take (s_take (s_take (s_skip (s_take s_nil)))))))))) ?_
          exact ⟨rfl, rfl⟩
end Go.Proofs.Qxb6500350aGreat
