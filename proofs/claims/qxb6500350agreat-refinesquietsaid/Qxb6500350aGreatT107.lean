/- MADE BY PROGRAM (tools350/mir.py): mirror and walk. -/
import Derived.Test.Qxb6500350aGreatF2
import Derived.Test.Qxb6500350aGreatT194
import Derived.Test.Qxb6500350aGreatT195
import Derived.Test.Qxb6500350aGreatT196
set_option linter.unusedVariables false
set_option linter.unusedSimpArgs false
set_option maxRecDepth 20000
set_option maxHeartbeats 4000000
namespace Go.Proofs.Qxb6500350aGreat
open Go.Eng

def op_107_23 : Array Go.Oper := #[{ dst := some 70, op := Go.Op.move (Go.Operand.tmp 0), type := 29, pos := "check.go:30", after := #[], guard := none }, { dst := some 71, op := Go.Op.move (Go.Operand.tmp 10), type := 3, pos := "check.go:30", after := #[], guard := none }, { dst := some 72, op := Go.Op.nilCheck (Go.Operand.tmp 70), type := 0, pos := "check.go:30", after := #[{ on := 0, ground := Go.Ground.data }], guard := none }, { dst := some 73, op := Go.Op.fieldAddr 169 (Go.Operand.tmp 72) 2, type := 0, pos := "check.go:30", after := #[{ on := 2, ground := Go.Ground.data }], guard := none }, { dst := some 74, op := Go.Op.indexAddr 167 (Go.Operand.tmp 73) (Go.Operand.tmp 71), type := 0, pos := "check.go:30", after := #[{ on := 3, ground := Go.Ground.data }, { on := 1, ground := Go.Ground.data }], guard := none }, { dst := some 75, op := Go.Op.load 3 (Go.Operand.tmp 74), type := 3, pos := "check.go:30", after := #[{ on := 4, ground := Go.Ground.data }], guard := none }, { dst := some 76, op := Go.Op.move (Go.Operand.tmp 10), type := 3, pos := "check.go:30", after := #[], guard := none }, { dst := some 77, op := Go.Op.indexAddr 167 (Go.Operand.tmp 3) (Go.Operand.tmp 76), type := 0, pos := "check.go:30", after := #[{ on := 6, ground := Go.Ground.data }], guard := none }, { dst := some 78, op := Go.Op.load 3 (Go.Operand.tmp 77), type := 3, pos := "check.go:30", after := #[{ on := 7, ground := Go.Ground.data }], guard := none }, { dst := some 79, op := Go.Op.binOp Go.BinOp.neq 3 (Go.Operand.tmp 75) (Go.Operand.tmp 78) 3, type := 4, pos := "check.go:30", after := #[{ on := 5, ground := Go.Ground.data }, { on := 8, ground := Go.Ground.data }], guard := none }]
theorem sb_107_23_0 : softB op_107_23 #[true, true, true, true, true, true, true, true, true, true] (Array.replicate 10 false) 0 = true := by kernel_rfl
theorem sb_107_23_1 : softB op_107_23 #[true, true, true, true, true, true, true, true, true, true] ((Array.replicate 10 false).setIfInBounds 0 true) 1 = true := by kernel_rfl
theorem sb_107_23_2 : softB op_107_23 #[true, true, true, true, true, true, true, true, true, true] (((Array.replicate 10 false).setIfInBounds 0 true).setIfInBounds 1 true) 2 = true := by kernel_rfl
theorem sb_107_23_3 : softB op_107_23 #[true, true, true, true, true, true, true, true, true, true] ((((Array.replicate 10 false).setIfInBounds 0 true).setIfInBounds 1 true).setIfInBounds 2 true) 3 = true := by kernel_rfl
theorem sb_107_23_4 : softB op_107_23 #[true, true, true, true, true, true, true, true, true, true] (((((Array.replicate 10 false).setIfInBounds 0 true).setIfInBounds 1 true).setIfInBounds 2 true).setIfInBounds 3 true) 4 = true := by kernel_rfl
theorem sb_107_23_5 : softB op_107_23 #[true, true, true, true, true, true, true, true, true, true] ((((((Array.replicate 10 false).setIfInBounds 0 true).setIfInBounds 1 true).setIfInBounds 2 true).setIfInBounds 3 true).setIfInBounds 4 true) 5 = true := by kernel_rfl
theorem sb_107_23_6 : softB op_107_23 #[true, true, true, true, true, true, true, true, true, true] (((((((Array.replicate 10 false).setIfInBounds 0 true).setIfInBounds 1 true).setIfInBounds 2 true).setIfInBounds 3 true).setIfInBounds 4 true).setIfInBounds 5 true) 6 = true := by kernel_rfl
theorem sb_107_23_7 : softB op_107_23 #[true, true, true, true, true, true, true, true, true, true] ((((((((Array.replicate 10 false).setIfInBounds 0 true).setIfInBounds 1 true).setIfInBounds 2 true).setIfInBounds 3 true).setIfInBounds 4 true).setIfInBounds 5 true).setIfInBounds 6 true) 7 = true := by kernel_rfl
theorem sb_107_23_8 : softB op_107_23 #[true, true, true, true, true, true, true, true, true, true] (((((((((Array.replicate 10 false).setIfInBounds 0 true).setIfInBounds 1 true).setIfInBounds 2 true).setIfInBounds 3 true).setIfInBounds 4 true).setIfInBounds 5 true).setIfInBounds 6 true).setIfInBounds 7 true) 8 = true := by kernel_rfl
theorem sb_107_23_9 : softB op_107_23 #[true, true, true, true, true, true, true, true, true, true] ((((((((((Array.replicate 10 false).setIfInBounds 0 true).setIfInBounds 1 true).setIfInBounds 2 true).setIfInBounds 3 true).setIfInBounds 4 true).setIfInBounds 5 true).setIfInBounds 6 true).setIfInBounds 7 true).setIfInBounds 8 true) 9 = true := by kernel_rfl
theorem sb_107_23_10 : hardB op_107_23 (((((((((((Array.replicate 10 false).setIfInBounds 0 true).setIfInBounds 1 true).setIfInBounds 2 true).setIfInBounds 3 true).setIfInBounds 4 true).setIfInBounds 5 true).setIfInBounds 6 true).setIfInBounds 7 true).setIfInBounds 8 true).setIfInBounds 9 true) [] = true := by kernel_rfl
/- (*tree.Trees).Check -/
def m107_w2 (n : Nat) (l2 : List Line) (mm : Nat) : Int → ((Int → Int)) → Option (Int × ((Int → Int))) := it2 (fun lp2 c7 z3 =>
cond (decide (c7 < (l2.length : Int))) (
Option.bind (ixL l2 c7) fun x1 =>
Option.bind (ckA x1.id 49) fun _ =>
Option.bind (ckA x1.id 49) fun _ =>
nm ((upI z3 x1.id (wi ((z3 x1.id) + 1))) : (Int → Int)) fun z6 =>
lp2 (wi (c7 + 1)) z6) (
some (c7, z3))) mm
def m107_w1 (n : Nat) (t : Trees) (s : Store) (d : Dev) (mm : Nat) : Int → ((Int → Int)) → Option (Flow (Bool) (Int × ((Int → Int)))) := it2 (fun lp1 c1 z1 =>
cond (decide (c1 ≤ 48)) (
ob3 (m194 n s d c1) fun c3 l1 c4 =>
ob1 (cond (decide (¬ (c4 = 0))) (
some 0) (
some c3)) fun c5 =>
Option.bind (ckA c1 49) fun _ =>
cond (decide (¬ ((t.kind c1) = c5))) (
Option.bind (some false) fun q1 => some (.ret q1)) (
cond (decide (c5 = 2)) (
ob1 (m195 n l1) fun l2 =>
cond ((decide ((l2.length : Int) = 0)) && (decide (¬ ((l1.length : Int) = 0)))) (
Option.bind (some false) fun q2 => some (.ret q2)) (
ob1 (m196 n t s d l2) fun c6 =>
cond (!c6) (
Option.bind (some false) fun q3 => some (.ret q3)) (
ob2 (m107_w2 n l2 n 0 z1) fun c8 z4 =>
lp1 (wi (c1 + 1)) z4))) (
lp1 (wi (c1 + 1)) z1))) (
some (.nx (c1, z1)))) mm
def m107_w3 (n : Nat) (t : Trees) (z2 : (Int → Int)) (mm : Nat) : Int → Option (Flow (Bool) (Int)) := it1 (fun lp3 c9 =>
cond (decide (c9 ≤ 48)) (
Option.bind (ckA c9 49) fun _ =>
Option.bind (ckA c9 49) fun _ =>
cond (decide (¬ ((t.count c9) = (z2 c9)))) (
Option.bind (some false) fun q4 => some (.ret q4)) (
lp3 (wi (c9 + 1)))) (
some (.nx c9))) mm
def m107 (n : Nat) (t : Trees) (s : Store) (d : Dev) : Option (Bool) :=
flow (m107_w1 n t s d n 1 (fun _ => 0)) some (un2 fun c2 z2 =>
flow (m107_w3 n t z2 n 0) some (un1 fun c10 =>
some (decide ((t.kind 0) = 0))))
theorem t107 {n : Nat} {C : List Chunk} {rc1 : Bool} {b1 : Nat} {t : Trees} {b2 : Nat} {s : Store} {b3 : Nat} {d : Dev} {v1 : Value} {g1 : List Chunk} {v2 : Value} {g2 : List Chunk} {v3 : Value} {g3 : List Chunk} {v4 : Value} {g4 : List Chunk} (ho1 : Own rByte v1 d.blk g1) (ho2 : Own rByte v2 d.base g2) (ho3 : Own rInt v3 d.at_ g3) (ho4 : Own rByte v4 d.data g4)  (hm : m107 n t s d = some rc1) : Trip Tryz.prog 107 #[.pointer (some ⟨b1, 0, none⟩)] ([[(b1, .cells (Trees.enc (.pointer (some ⟨b2, 0, none⟩)) t).toArray 169 (0, 0))], [(b2, .cells (Store.enc (.pointer (some ⟨b3, 0, none⟩)) s).toArray 126 (0, 0))], [(b3, .cells (Dev.enc (v1) (v2) (v3) (v4) d).toArray 85 (0, 0))], g1, g2, g3, g4] ++ [C]) (fun u S' => .bool rc1 = u ∧ S' = [[(b1, .cells (Trees.enc (.pointer (some ⟨b2, 0, none⟩)) t).toArray 169 (0, 0))], [(b2, .cells (Store.enc (.pointer (some ⟨b3, 0, none⟩)) s).toArray 126 (0, 0))], [(b3, .cells (Dev.enc (v1) (v2) (v3) (v4) d).toArray 85 (0, 0))], g1, g2, g3, g4] ++ [C]) := by
  refine fn_entry (args := [.pointer (some ⟨b1, 0, none⟩)]) Tryz.func107 rfl Tryz.ntmps107 rfl (fun w0 => ?_)
  refine c_seq ?_
  refine c_region ?_
  refine o_L (y_assign rfl) rfl rfl ?_
  refine o_nil0 rfl ?_
  refine c_seq ?_
  refine c_region ?_
  refine o_alloc ze_167 rfl rfl (fun b4 => ?_)
  refine o_nil0 rfl ?_
  refine c_seq ?_
  refine c_seq ?_
  refine c_region ?_
  refine o_L (y_assign rfl) rfl rfl ?_
  refine o_nil0 rfl ?_
  obtain ⟨f1, F1, hF1, hj1, hF2⟩ := fl2 hm
  refine c_joinP (n := 1) (fun sh G => ∃ (c2 : Int), ∃ (z2 : (Int → Int)), sh = [(4, .int .i64 c2)] ∧ G = [[(b4, .cells (encN encI z2 49).toArray 167 (0, 0))]] ∧ F1 (c2, z2) = some rc1) (s_take (s_take (s_take (s_take (s_take (s_take (s_take (s_take (s_take s_nil))))))))) (.s .z) (fun _ _ h => h) ?_ ?_
  · skip
    refine c_block ?_
    refine c_loopP (n := 1) (fun mm sh G => ∃ (c1 : Int), ∃ (z1 : (Int → Int)), sh = [(4, .int .i64 c1)] ∧ G = [[(b4, .cells (encN encI z1 49).toArray 167 (0, 0))]] ∧ m107_w1 n t s d mm c1 z1 = some f1) n (s_take (s_take (s_take (s_take (s_take (s_take (s_take (s_take (s_take s_nil))))))))) (.s .z) ⟨_, _, ⟨_, _, rfl, rfl, hj1⟩, ⟨rfl, trivial⟩, _, (s_take (s_take (s_take (s_take (s_take (s_take (s_take (s_take (s_take s_nil)))))))))⟩ ?_
    rintro mm sh G ⟨c1, z1, rfl, rfl, hm⟩
    obtain ⟨mm1, rfl, hm⟩ := it2_s hm
    refine c_seq ?_
    refine c_seq ?_
    refine c_region ?_
    refine o_T (y_move rfl) rfl ?_
    refine o_T (y_leq rfl rfl) rfl ?_
    refine o_nil1 12 rfl rfl ?_
    refine c_cond rfl (fun h1 => ?_) (fun h1 => ?_)
    · have hm := cd_t h1 hm
      refine c_skip ?_
      refine c_seq ?_
      refine c_block ?_
      refine c_seq ?_
      refine c_region ?_
      refine o_T (y_move rfl) rfl ?_
      refine o_T (y_nilck rfl) rfl ?_
      refine o_T (y_fa fl_169_0 rfl) rfl ?_
      refine o_ld one_28 rfl (ms m0) (At.got (At.refl.comp Trees.a_o)) rfl ?_
      refine o_T (y_move rfl) rfl ?_
      obtain ⟨c3, l1, c4, hx1, hm⟩ := bd3 hm
      refine o_callC en_194 rfl (s_skip (s_skip (s_take (s_take (s_take (s_take (s_take (s_take s_nil)))))))) (t194 ho1 ho2 ho3 ho4 hx1) rfl (fun u1 S1 hR1 => ?_)
      obtain ⟨v5, g5, rfl, rfl, ho5⟩ := hR1
      refine o_rest ?_
      refine o_T (y_move rfl) rfl ?_
      refine o_T (y_extract rfl rfl) rfl ?_
      refine o_T (y_extract rfl rfl) rfl ?_
      refine o_T (y_extract rfl rfl) rfl ?_
      refine o_L (y_assign rfl) rfl rfl ?_
      refine o_L (y_assign rfl) rfl rfl ?_
      refine o_L (y_assign rfl) rfl rfl ?_
      refine o_nil0 rfl ?_
      refine c_seq ?_
      refine c_seq ?_
      refine c_region ?_
      refine o_T (y_move rfl) rfl ?_
      refine o_T (y_neq rfl rfl) rfl ?_
      refine o_nil1 26 rfl rfl ?_
      obtain ⟨c5, hj2, hm⟩ := bd1 hm
      refine c_joinP (n := 0) (fun sh G => sh = [(5, .int .i64 c5)] ∧ G = []) (s_take (s_take (s_take (s_take (s_take (s_take (s_take (s_take (s_take (s_take s_nil)))))))))) .z (fun _ _ h => h) ?_ ?_
      · have hm := hj2
        refine c_cond rfl (fun h2 => ?_) (fun h2 => ?_)
        · have hm := cd_t h2 hm
          refine c_region ?_
          refine o_L (y_assign rfl) rfl rfl ?_
          refine o_nil0 rfl ?_
          obtain rfl := p1 hm
          exact ⟨_, _, ⟨rfl, rfl⟩, ⟨rfl, trivial⟩, ⟨rfl, rfl⟩, _, (s_take (s_take (s_take (s_take (s_take (s_take (s_take (s_take (s_take (s_take s_nil))))))))))⟩
        · have hm := cd_f h2 hm
          refine c_skip ?_
          obtain rfl := p1 hm
          exact ⟨_, _, ⟨rfl, rfl⟩, ⟨rfl, trivial⟩, ⟨rfl, rfl⟩, _, (s_take (s_take (s_take (s_take (s_take (s_take (s_take (s_take (s_take (s_take s_nil))))))))))⟩
      · rintro sh G ⟨rfl, rfl⟩
        refine c_seq ?_
        refine c_seq ?_
        refine c_region ?_
        refine o_T (y_move rfl) rfl ?_
        refine o_T (y_move rfl) rfl ?_
        refine o_T (y_nilck rfl) rfl ?_
        refine o_T (y_fa fl_169_1 rfl) rfl ?_
        obtain ⟨_, hx2, hm⟩ := bd hm
        have hx2 := ckA_some hx2
        refine o_T (y_ia ar_167 rfl rfl hx2.1 hx2.2) rfl ?_
        refine o_ld one_3 rfl (ms (ms (ms (ms (ms (ms (ms (ms m0)))))))) (At.got ((At.refl.comp Trees.a_kind).comp (encN_a encI_len _ _ hx2.1 _ hx2.2))) rfl ?_
        refine o_T (y_move rfl) rfl ?_
        refine o_T (y_neq rfl rfl) rfl ?_
        refine o_nil1 34 rfl rfl ?_
        refine c_cond rfl (fun h3 => ?_) (fun h3 => ?_)
        · have hm := cd_t h3 hm
          refine c_seq ?_
          refine c_region ?_
          refine o_L (y_assign rfl) rfl rfl ?_
          refine o_nil0 rfl ?_
          refine c_ret ?_
          obtain ⟨q1, hq1, hm⟩ := bd hm
          have hm := fl_ret hm hF2
          have hm := hq1.trans hm
          obtain rfl := p1 hm
          refine fun aX wX heX hsX => ret1 Tryz.results107 heX rfl (s_get (ks (ks (ks (ks (ks (ks (ks (ks k0)))))))) (s_take (s_take (s_take (s_take (s_take (s_take (s_skip (s_skip (s_take s_nil)))))))))) ?_
          exact ⟨rfl, rfl⟩
        · have hm := cd_f h3 hm
          refine c_skip ?_
          refine c_seq ?_
          refine c_region ?_
          refine o_T (y_move rfl) rfl ?_
          refine o_T (y_eql rfl rfl) rfl ?_
          refine o_nil1 36 rfl rfl ?_
          refine c_cond rfl (fun h4 => ?_) (fun h4 => ?_)
          · have hm := cd_t h4 hm
            refine c_seq ?_
            refine c_region ?_
            refine o_T (y_move rfl) rfl ?_
            obtain ⟨l2, hx3, hm⟩ := bd1 hm
            refine o_callC en_195 rfl s_nil (t195 (ho5.rd.mono (fun _ hz => (ms (ms (ms (ms (ms (ms (mg hz))))))))) hx3) rfl (fun u2 S2 hR2 => ?_)
            obtain ⟨v6, g6, rfl, rfl, ho6⟩ := hR2
            refine o_rest ?_
            refine o_L (y_assign rfl) rfl rfl ?_
            refine o_nil0 rfl ?_
            refine c_seq ?_
            refine c_seq ?_
            refine c_joinP (n := 0) (fun sh G => sh = [(46, .bool ((decide ((l2.length : Int) = 0)) && (decide (¬ ((l1.length : Int) = 0)))))] ∧ G = []) Sel.all' .z (fun _ _ h => h) ?_ ?_
            · skip
              refine c_region ?_
              refine o_T (y_move rfl) rfl ?_
              refine o_T (y_lenR ho6.rd Tryz.underlying209 rfl) rfl ?_
              refine o_T (y_eql rfl rfl) rfl ?_
              refine o_T (y_move rfl) rfl ?_
              refine o_split 42 rfl (fun h5 => ?_) (fun h5 => ?_)
              · skip
                refine o_take rfl rfl rfl ?_
                refine o_T (y_move rfl) rfl ?_
                refine o_take rfl rfl rfl ?_
                refine o_T (y_lenR ho5.rd Tryz.underlying81 rfl) rfl ?_
                refine o_take rfl rfl rfl ?_
                refine o_T (y_neq rfl rfl) rfl ?_
                refine o_T (y_pickT rfl rfl) rfl ?_
                refine o_nil1 46 rfl rfl ?_
                refine ⟨_, _, ⟨rfl, rfl⟩, ⟨by first | rfl | exact gtb rfl (by simp only [h5, Bool.true_and, Bool.false_and, Bool.true_or, Bool.false_or, Bool.and_true, Bool.and_false, Bool.or_true, Bool.or_false, Bool.not_true, Bool.not_false]), trivial⟩, ⟨rfl, rfl⟩, _, (s_take (s_take (s_take (s_take (s_take (s_take (s_take (s_take (s_take (s_take (s_take s_nil)))))))))))⟩
              · skip
                refine o_pass rfl rfl rfl rfl rfl ?_
                refine o_pass rfl rfl rfl rfl rfl ?_
                refine o_pass rfl rfl rfl rfl rfl ?_
                refine o_T (y_pickF rfl rfl) rfl ?_
                refine o_nil1 46 rfl rfl ?_
                refine ⟨_, _, ⟨rfl, rfl⟩, ⟨by first | rfl | exact gtb rfl (by simp only [h5, Bool.true_and, Bool.false_and, Bool.true_or, Bool.false_or, Bool.and_true, Bool.and_false, Bool.or_true, Bool.or_false, Bool.not_true, Bool.not_false]), trivial⟩, ⟨rfl, rfl⟩, _, (s_take (s_take (s_take (s_take (s_take (s_take (s_take (s_take (s_take (s_take (s_take s_nil)))))))))))⟩
            · rintro sh G ⟨rfl, rfl⟩
              refine c_cond rfl (fun h6 => ?_) (fun h6 => ?_)
              · have hm := cd_t h6 hm
                refine c_seq ?_
                refine c_region ?_
                refine o_L (y_assign rfl) rfl rfl ?_
                refine o_nil0 rfl ?_
                refine c_ret ?_
                obtain ⟨q2, hq2, hm⟩ := bd hm
                have hm := fl_ret hm hF2
                have hm := hq2.trans hm
                obtain rfl := p1 hm
                refine fun aX wX heX hsX => ret1 Tryz.results107 heX rfl (s_skip (s_get (ks (ks (ks (ks (ks (ks (ks (ks k0)))))))) (s_take (s_take (s_take (s_take (s_take (s_take (s_skip (s_skip (s_take s_nil))))))))))) ?_
                exact ⟨rfl, rfl⟩
              · have hm := cd_f h6 hm
                refine c_skip ?_
                refine c_seq ?_
                refine c_seq ?_
                refine c_region ?_
                refine o_T (y_move rfl) rfl ?_
                refine o_T (y_move rfl) rfl ?_
                obtain ⟨c6, hx4, hm⟩ := bd1 hm
                refine o_callC en_196 rfl (s_skip (s_get (ks (ks (ks (ks (ks (ks (ks (ks k0)))))))) (s_take (s_take (s_take (s_take (s_take (s_take s_nil)))))))) (t196 ho1 ho2 ho3 ho4 (ho6.rd.mono (fun _ hz => (mg hz))) hx4) rfl (fun u3 S3 hR3 => ?_)
                obtain ⟨rfl, rfl⟩ := hR3
                refine o_rest ?_
                refine o_T (y_not rfl) rfl ?_
                refine o_nil1 50 rfl rfl ?_
                refine c_cond rfl (fun h7 => ?_) (fun h7 => ?_)
                · have hm := cd_t h7 hm
                  refine c_seq ?_
                  refine c_region ?_
                  refine o_L (y_assign rfl) rfl rfl ?_
                  refine o_nil0 rfl ?_
                  refine c_ret ?_
                  obtain ⟨q3, hq3, hm⟩ := bd hm
                  have hm := fl_ret hm hF2
                  have hm := hq3.trans hm
                  obtain rfl := p1 hm
                  refine fun aX wX heX hsX => ret1 Tryz.results107 heX rfl (s_take (s_take (s_take (s_take (s_take (s_take (s_take (s_skip (s_skip (s_skip (s_take s_nil))))))))))) ?_
                  exact ⟨rfl, rfl⟩
                · have hm := cd_f h7 hm
                  refine c_skip ?_
                  refine c_seq ?_
                  refine c_region ?_
                  refine o_L (y_assign rfl) rfl rfl ?_
                  refine o_nil0 rfl ?_
                  obtain ⟨c8, z4, hj3, hm⟩ := bd2 hm
                  refine c_joinP (n := 1) (fun sh G => sh = [(9, .int .i64 c8)] ∧ G = [[(b4, .cells (encN encI z4 49).toArray 167 (0, 0))]]) (s_get (ks (ks (ks (ks (ks (ks (ks (ks (ks k0))))))))) (s_take (s_take (s_take (s_take (s_take (s_take (s_take (s_take (s_skip (s_take s_nil))))))))))) (.s .z) (fun _ _ h => h) ?_ ?_
                  · skip
                    refine c_block ?_
                    refine c_loopP (n := 1) (fun mm sh G => ∃ (c7 : Int), ∃ (z3 : (Int → Int)), sh = [(9, .int .i64 c7)] ∧ G = [[(b4, .cells (encN encI z3 49).toArray 167 (0, 0))]] ∧ m107_w2 n l2 mm c7 z3 = some (c8, z4)) n (s_get (ks (ks (ks (ks (ks (ks (ks (ks (ks k0))))))))) (s_take (s_take (s_take (s_take (s_take (s_take (s_take (s_take (s_skip (s_take s_nil))))))))))) (.s .z) ⟨_, _, ⟨_, _, rfl, rfl, hj3⟩, ⟨rfl, trivial⟩, _, (s_get (ks (ks (ks (ks (ks (ks (ks (ks (ks k0))))))))) (s_take (s_take (s_take (s_take (s_take (s_take (s_take (s_take (s_skip (s_take s_nil)))))))))))⟩ ?_
                    rintro mm sh G ⟨c7, z3, rfl, rfl, hm⟩
                    obtain ⟨mm2, rfl, hm⟩ := it2_s hm
                    refine c_seq ?_
                    refine c_seq ?_
                    refine c_region ?_
                    refine o_T (y_move rfl) rfl ?_
                    refine o_T (y_move rfl) rfl ?_
                    refine o_T (y_lenR ho6.rd Tryz.underlying209 rfl) rfl ?_
                    refine o_T (y_lss rfl rfl) rfl ?_
                    refine o_nil1 54 rfl rfl ?_
                    refine c_cond rfl (fun h8 => ?_) (fun h8 => ?_)
                    · have hm := cd_t h8 hm
                      refine c_skip ?_
                      refine c_seq ?_
                      refine c_block ?_
                      refine c_region ?_
                      refine o_T (y_move rfl) rfl ?_
                      refine o_T (y_move rfl) rfl ?_
                      obtain ⟨x1, hx5, hm⟩ := bd hm
                      obtain ⟨b5, w1, cs1, y1, z5, vs1, hc1, ha1, hr1, hy1⟩ := ho6.rd.ix hx5
                      obtain rfl : vs1 = Line.enc x1 := hr1
                      refine o_T (hy1 sl_209 rfl rfl rfl) rfl ?_
                      refine o_T (y_fa fl_213_2 rfl) rfl ?_
                      refine o_ld one_3 rfl (ms (ms (ms (ms (ms (ms (ms (ms (mg hc1))))))))) (At.getA (ha1.comp Line.a_id)) rfl ?_
                      obtain ⟨_, hx6, hm⟩ := bd hm
                      have hx6 := ckA_some hx6
                      refine o_T (y_ia ar_167 rfl rfl hx6.1 hx6.2) rfl ?_
                      refine o_ld one_3 rfl m0 (At.got (At.refl.comp (encN_a encI_len _ _ hx6.1 _ hx6.2))) rfl ?_
                      refine o_T (y_add rfl rfl rfl) rfl ?_
                      obtain ⟨_, hx7, hm⟩ := bd hm
                      have hx7 := ckA_some hx7
                      refine o_T (y_ia ar_167 rfl rfl hx7.1 hx7.2) rfl ?_
                      obtain ⟨z6, hn1, hm⟩ := nm_s hm
                      refine o_stN one_3 rfl rfl rfl (Upd.z (encN_u encI_len _ _ _ hx7.1 _ hx7.2)) r0 (show (encN encI z6 49) = _ from by subst hn1; rfl) ?_
                      refine o_nil0 rfl ?_
                      refine c_region ?_
                      refine o_T (y_move rfl) rfl ?_
                      refine o_T (y_add rfl rfl rfl) rfl ?_
                      refine o_L (y_assign rfl) rfl rfl ?_
                      refine o_nil0 rfl ?_
                      exact ⟨mm2, Nat.lt_succ_self _, _, _, ⟨_, _, rfl, rfl, hm⟩, ⟨rfl, trivial⟩, ⟨rfl, rfl⟩, _, (s_take (s_take (s_take (s_take (s_take (s_take (s_take (s_take (s_take (s_take s_nil))))))))))⟩
                    · have hm := cd_f h8 hm
                      refine c_exit ?_
                      obtain ⟨rfl, rfl⟩ := pr2 hm
                      exact ⟨_, _, ⟨rfl, rfl⟩, ⟨rfl, trivial⟩, ⟨rfl, rfl⟩, _, (s_take (s_take (s_take (s_take (s_take (s_take (s_take (s_take (s_take (s_take s_nil))))))))))⟩
                  · rintro sh G ⟨rfl, rfl⟩
                    refine c_region ?_
                    refine o_T (y_move rfl) rfl ?_
                    refine o_T (y_add rfl rfl rfl) rfl ?_
                    refine o_L (y_assign rfl) rfl rfl ?_
                    refine o_nil0 rfl ?_
                    exact ⟨mm1, Nat.lt_succ_self _, _, _, ⟨_, _, rfl, rfl, hm⟩, ⟨rfl, trivial⟩, ⟨rfl, rfl⟩, _, (s_take (s_take (s_take (s_take (s_take (s_take (s_take (s_take (s_skip (s_take s_nil))))))))))⟩
          · have hm := cd_f h4 hm
            refine c_skip ?_
            refine c_region ?_
            refine o_T (y_move rfl) rfl ?_
            refine o_T (y_add rfl rfl rfl) rfl ?_
            refine o_L (y_assign rfl) rfl rfl ?_
            refine o_nil0 rfl ?_
            exact ⟨mm1, Nat.lt_succ_self _, _, _, ⟨_, _, rfl, rfl, hm⟩, ⟨rfl, trivial⟩, ⟨rfl, rfl⟩, _, (s_get (ks (ks (ks (ks (ks (ks (ks k0))))))) (s_get (ks (ks (ks (ks (ks (ks (ks k0))))))) (s_take (s_take (s_take (s_take (s_take (s_take (s_skip (s_take s_nil))))))))))⟩
    · have hm := cd_f h1 hm
      refine c_exit ?_
      have hm := fl_nx hm hF2
      exact ⟨_, _, ⟨_, _, rfl, rfl, hm⟩, ⟨rfl, trivial⟩, ⟨rfl, rfl⟩, _, (s_take (s_take (s_take (s_take (s_take (s_take (s_take (s_take (s_take s_nil)))))))))⟩
  · rintro sh G ⟨c2, z2, rfl, rfl, hm⟩
    subst hF1
    refine c_seq ?_
    refine c_seq ?_
    refine c_region ?_
    refine o_L (y_assign rfl) rfl rfl ?_
    refine o_nil0 rfl ?_
    obtain ⟨f2, F2, hF3, hj4, hF4⟩ := fl2 hm
    refine c_joinP (n := 0) (fun sh G => ∃ (c10 : Int), sh = [(10, .int .i64 c10)] ∧ G = [] ∧ F2 c10 = some rc1) (s_take (s_take (s_take (s_take (s_take (s_take (s_take (s_take (s_take s_nil))))))))) .z (fun _ _ h => h) ?_ ?_
    · skip
      refine c_block ?_
      refine c_loopP (n := 0) (fun mm sh G => ∃ (c9 : Int), sh = [(10, .int .i64 c9)] ∧ G = [] ∧ m107_w3 n t z2 mm c9 = some f2) n (s_take (s_take (s_take (s_take (s_take (s_take (s_take (s_take (s_take s_nil))))))))) .z ⟨_, _, ⟨_, rfl, rfl, hj4⟩, ⟨rfl, trivial⟩, _, (s_take (s_take (s_take (s_take (s_take (s_take (s_take (s_take (s_take s_nil)))))))))⟩ ?_
      rintro mm sh G ⟨c9, rfl, rfl, hm⟩
      obtain ⟨mm3, rfl, hm⟩ := it1_s hm
      refine c_seq ?_
      refine c_seq ?_
      refine c_region ?_
      refine o_T (y_move rfl) rfl ?_
      refine o_T (y_leq rfl rfl) rfl ?_
      refine o_nil1 67 rfl rfl ?_
      refine c_cond rfl (fun h9 => ?_) (fun h9 => ?_)
      · have hm := cd_t h9 hm
        refine c_skip ?_
        refine c_seq ?_
        refine c_block ?_
        refine c_seq ?_
        refine c_draw #[true, true, true, true, true, true, true, true, true, true] rfl (n := 10) rfl ?_
        refine d_T 0 rfl sb_107_23_0 rfl (y_move rfl) rfl ?_
        refine d_T 1 rfl sb_107_23_1 rfl (y_move rfl) rfl ?_
        refine d_T 2 rfl sb_107_23_2 rfl (y_nilck rfl) rfl ?_
        refine d_T 3 rfl sb_107_23_3 rfl (y_fa fl_169_2 rfl) rfl ?_
        obtain ⟨_, hx8, hm⟩ := bd hm
        have hx8 := ckA_some hx8
        refine d_T 4 rfl sb_107_23_4 rfl (y_ia ar_167 rfl rfl hx8.1 hx8.2) rfl ?_
        refine d_ld 5 rfl sb_107_23_5 one_3 rfl (fun x hx => hx) (ms m0) (At.got ((At.refl.comp Trees.a_count).comp (encN_a encI_len _ _ hx8.1 _ hx8.2))) rfl ?_
        refine d_T 6 rfl sb_107_23_6 rfl (y_move rfl) rfl ?_
        obtain ⟨_, hx9, hm⟩ := bd hm
        have hx9 := ckA_some hx9
        refine d_T 7 rfl sb_107_23_7 rfl (y_ia ar_167 rfl rfl hx9.1 hx9.2) rfl ?_
        refine d_ld 8 rfl sb_107_23_8 one_3 rfl (fun x hx => hx) m0 (At.got (At.refl.comp (encN_a encI_len _ _ hx9.1 _ hx9.2))) rfl ?_
        refine d_T 9 rfl sb_107_23_9 rfl (y_neq rfl rfl) rfl ?_
        refine d_nil1 79 sb_107_23_10 rfl rfl ?_
        refine c_cond rfl (fun h10 => ?_) (fun h10 => ?_)
        · have hm := cd_t h10 hm
          refine c_seq ?_
          refine c_region ?_
          refine o_L (y_assign rfl) rfl rfl ?_
          refine o_nil0 rfl ?_
          refine c_ret ?_
          obtain ⟨q4, hq4, hm⟩ := bd hm
          have hm := fl_ret hm hF4
          have hm := hq4.trans hm
          obtain rfl := p1 hm
          refine fun aX wX heX hsX => ret1 Tryz.results107 heX rfl (s_skip (s_take (s_take (s_take (s_take (s_take (s_take (s_take (s_take s_nil))))))))) ?_
          exact ⟨rfl, rfl⟩
        · have hm := cd_f h10 hm
          refine c_skip ?_
          refine c_region ?_
          refine o_T (y_move rfl) rfl ?_
          refine o_T (y_add rfl rfl rfl) rfl ?_
          refine o_L (y_assign rfl) rfl rfl ?_
          refine o_nil0 rfl ?_
          exact ⟨mm3, Nat.lt_succ_self _, _, _, ⟨_, rfl, rfl, hm⟩, ⟨rfl, trivial⟩, ⟨rfl, rfl⟩, _, (s_take (s_take (s_take (s_take (s_take (s_take (s_take (s_take (s_take s_nil)))))))))⟩
      · have hm := cd_f h9 hm
        refine c_exit ?_
        have hm := fl_nx hm hF4
        exact ⟨_, _, ⟨_, rfl, rfl, hm⟩, ⟨rfl, trivial⟩, ⟨rfl, rfl⟩, _, (s_take (s_take (s_take (s_take (s_take (s_take (s_take (s_take (s_take s_nil)))))))))⟩
    · rintro sh G ⟨c10, rfl, rfl, hm⟩
      subst hF3
      refine c_seq ?_
      refine c_region ?_
      refine o_T (y_move rfl) rfl ?_
      refine o_T (y_nilck rfl) rfl ?_
      refine o_T (y_fa fl_169_1 rfl) rfl ?_
      refine o_T (y_ia ar_167 rfl rfl (show (0 : Int) ≤ 0 ∧ (0 : Int) < 49 from ⟨by decide, by decide⟩).1 (show (0 : Int) ≤ 0 ∧ (0 : Int) < 49 from ⟨by decide, by decide⟩).2) rfl ?_
      refine o_ld one_3 rfl (ms m0) (At.got ((At.refl.comp Trees.a_kind).comp (encN_a encI_len _ _ (show (0 : Int) ≤ 0 ∧ (0 : Int) < 49 from ⟨by decide, by decide⟩).1 _ (show (0 : Int) ≤ 0 ∧ (0 : Int) < 49 from ⟨by decide, by decide⟩).2))) rfl ?_
      refine o_T (y_eql rfl rfl) rfl ?_
      refine o_L (y_assign rfl) rfl rfl ?_
      refine o_nil0 rfl ?_
      refine c_ret ?_
      obtain rfl := p1 hm
      refine fun aX wX heX hsX => ret1 Tryz.results107 heX rfl (s_skip (s_take (s_take (s_take (s_take (s_take (s_take (s_take (s_take s_nil))))))))) ?_
      exact ⟨rfl, rfl⟩
end Go.Proofs.Qxb6500350aGreat
