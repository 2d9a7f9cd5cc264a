/- MADE BY PROGRAM (tools350/mir.py): mirror and walk. -/
import Derived.Test.Qxb6500350aGreatF2
import Derived.Test.Qxb6500350aGreatT163
import Derived.Test.Qxb6500350aGreatT295
import Derived.Test.Qxb6500350aGreatT243
set_option linter.unusedVariables false
set_option linter.unusedSimpArgs false
set_option maxRecDepth 20000
set_option maxHeartbeats 4000000
namespace Go.Proofs.Qxb6500350aGreat
open Go.Eng

def op_261_11 : Array Go.Oper := #[{ dst := some 44, op := Go.Op.move (Go.Operand.tmp 10), type := 81, pos := "chain.go:87", after := #[], guard := none }, { dst := some 45, op := Go.Op.move (Go.Operand.tmp 12), type := 3, pos := "chain.go:87", after := #[], guard := none }, { dst := some 46, op := Go.Op.binOp Go.BinOp.add 3 (Go.Operand.const (Go.Value.int Go.IntKind.i64 4)) (Go.Operand.tmp 45) 3, type := 3, pos := "chain.go:87", after := #[{ on := 1, ground := Go.Ground.data }], guard := none }, { dst := some 47, op := Go.Op.indexAddr 81 (Go.Operand.tmp 44) (Go.Operand.tmp 46), type := 0, pos := "chain.go:87", after := #[{ on := 0, ground := Go.Ground.data }, { on := 2, ground := Go.Ground.data }], guard := none }, { dst := some 48, op := Go.Op.load 5 (Go.Operand.tmp 47), type := 5, pos := "chain.go:87", after := #[{ on := 3, ground := Go.Ground.data }], guard := none }, { dst := some 49, op := Go.Op.move (Go.Operand.tmp 2), type := 81, pos := "chain.go:87", after := #[], guard := none }, { dst := some 50, op := Go.Op.move (Go.Operand.tmp 7), type := 3, pos := "chain.go:87", after := #[], guard := none }, { dst := some 51, op := Go.Op.indexAddr 81 (Go.Operand.tmp 49) (Go.Operand.tmp 50), type := 0, pos := "chain.go:87", after := #[{ on := 5, ground := Go.Ground.data }, { on := 6, ground := Go.Ground.data }], guard := none }, { dst := some 52, op := Go.Op.load 5 (Go.Operand.tmp 51), type := 5, pos := "chain.go:87", after := #[{ on := 7, ground := Go.Ground.data }], guard := none }, { dst := some 53, op := Go.Op.binOp Go.BinOp.neq 5 (Go.Operand.tmp 48) (Go.Operand.tmp 52) 5, type := 4, pos := "chain.go:87", after := #[{ on := 4, ground := Go.Ground.data }, { on := 8, ground := Go.Ground.data }], guard := none }]
theorem sb_261_11_0 : softB op_261_11 #[true, true, true, true, true, true, true, true, true, true] (Array.replicate 10 false) 0 = true := by kernel_rfl
theorem sb_261_11_1 : softB op_261_11 #[true, true, true, true, true, true, true, true, true, true] ((Array.replicate 10 false).setIfInBounds 0 true) 1 = true := by kernel_rfl
theorem sb_261_11_2 : softB op_261_11 #[true, true, true, true, true, true, true, true, true, true] (((Array.replicate 10 false).setIfInBounds 0 true).setIfInBounds 1 true) 2 = true := by kernel_rfl
theorem sb_261_11_3 : softB op_261_11 #[true, true, true, true, true, true, true, true, true, true] ((((Array.replicate 10 false).setIfInBounds 0 true).setIfInBounds 1 true).setIfInBounds 2 true) 3 = true := by kernel_rfl
theorem sb_261_11_4 : softB op_261_11 #[true, true, true, true, true, true, true, true, true, true] (((((Array.replicate 10 false).setIfInBounds 0 true).setIfInBounds 1 true).setIfInBounds 2 true).setIfInBounds 3 true) 4 = true := by kernel_rfl
theorem sb_261_11_5 : softB op_261_11 #[true, true, true, true, true, true, true, true, true, true] ((((((Array.replicate 10 false).setIfInBounds 0 true).setIfInBounds 1 true).setIfInBounds 2 true).setIfInBounds 3 true).setIfInBounds 4 true) 5 = true := by kernel_rfl
theorem sb_261_11_6 : softB op_261_11 #[true, true, true, true, true, true, true, true, true, true] (((((((Array.replicate 10 false).setIfInBounds 0 true).setIfInBounds 1 true).setIfInBounds 2 true).setIfInBounds 3 true).setIfInBounds 4 true).setIfInBounds 5 true) 6 = true := by kernel_rfl
theorem sb_261_11_7 : softB op_261_11 #[true, true, true, true, true, true, true, true, true, true] ((((((((Array.replicate 10 false).setIfInBounds 0 true).setIfInBounds 1 true).setIfInBounds 2 true).setIfInBounds 3 true).setIfInBounds 4 true).setIfInBounds 5 true).setIfInBounds 6 true) 7 = true := by kernel_rfl
theorem sb_261_11_8 : softB op_261_11 #[true, true, true, true, true, true, true, true, true, true] (((((((((Array.replicate 10 false).setIfInBounds 0 true).setIfInBounds 1 true).setIfInBounds 2 true).setIfInBounds 3 true).setIfInBounds 4 true).setIfInBounds 5 true).setIfInBounds 6 true).setIfInBounds 7 true) 8 = true := by kernel_rfl
theorem sb_261_11_9 : softB op_261_11 #[true, true, true, true, true, true, true, true, true, true] ((((((((((Array.replicate 10 false).setIfInBounds 0 true).setIfInBounds 1 true).setIfInBounds 2 true).setIfInBounds 3 true).setIfInBounds 4 true).setIfInBounds 5 true).setIfInBounds 6 true).setIfInBounds 7 true).setIfInBounds 8 true) 9 = true := by kernel_rfl
theorem sb_261_11_10 : hardB op_261_11 (((((((((((Array.replicate 10 false).setIfInBounds 0 true).setIfInBounds 1 true).setIfInBounds 2 true).setIfInBounds 3 true).setIfInBounds 4 true).setIfInBounds 5 true).setIfInBounds 6 true).setIfInBounds 7 true).setIfInBounds 8 true).setIfInBounds 9 true) [] = true := by kernel_rfl
/- (*objects.Store).holds -/
def m261_w2 (n : Nat) (data : (List UInt8)) (l1 : List UInt8) (c7 : Int) (mm : Nat) : Int → Int → Option (Flow (Flow (Bool) (Int × Int × Int)) (Int × Int)) := it2 (fun lp2 c8 c9 =>
cond ((decide (c9 < c7)) && (decide (c8 < (data.length : Int)))) (
Option.bind (ixL l1 (wi (4 + c9))) fun x1 =>
Option.bind (ixL data c8) fun x2 =>
cond (decide (¬ ((x1.toNat : Int) = (x2.toNat : Int)))) (
Option.bind (Option.bind (some false) fun q2 => some (.ret q2)) fun q1 => some (.ret q1)) (
lp2 (wi (c8 + 1)) (wi (c9 + 1)))) (
some (.nx (c8, c9)))) mm
def m261_w1 (n : Nat) (s : Store) (d : Dev) (data : (List UInt8)) (mm : Nat) : Int → Int → Int → Option (Flow (Bool) (Int × Int × Int)) := it3 (fun lp1 c1 c2 c3 =>
cond ((decide (c3 < 3)) && (decide (¬ (c2 = 0)))) (
ob1 (m163 n s d c2) fun l1 =>
ob1 (m295 n l1) fun c7 =>
flow (m261_w2 n data l1 c7 n c1 0) some (un2 fun c10 c11 =>
ob1 (m243 n l1) fun c12 =>
lp1 c10 c12 (wi (c3 + 1)))) (
some (.nx (c1, c2, c3)))) mm
def m261 (n : Nat) (s : Store) (d : Dev) (id : Int) (data : (List UInt8)) : Option (Bool) :=
Option.bind (ckA id 49) fun _ =>
flow (m261_w1 n s d data n 0 ((s.tab id).first) 0) some (un3 fun c4 c5 c6 =>
some (decide (c4 = (data.length : Int))))
theorem t261 {n : Nat} {C : List Chunk} {rc1 : Bool} {b1 : Nat} {s : Store} {b2 : Nat} {d : Dev} {v1 : Value} {g1 : List Chunk} {v2 : Value} {g2 : List Chunk} {v3 : Value} {g3 : List Chunk} {v4 : Value} {g4 : List Chunk} {id : Int} {v5 : Value} {data : (List UInt8)} (ho1 : Own rByte v1 d.blk g1) (ho2 : Own rByte v2 d.base g2) (ho3 : Own rInt v3 d.at_ g3) (ho4 : Own rByte v4 d.data g4) (hr1 : Rd rByte C v5 data)  (hm : m261 n s d id data = some rc1) : Trip Tryz.prog 261 #[.pointer (some ⟨b1, 0, none⟩), .int .i64 id, v5] ([[(b1, .cells (Store.enc (.pointer (some ⟨b2, 0, none⟩)) s).toArray 126 (0, 0))], [(b2, .cells (Dev.enc (v1) (v2) (v3) (v4) d).toArray 85 (0, 0))], g1, g2, g3, g4] ++ [C]) (fun u S' => .bool rc1 = u ∧ S' = [[(b1, .cells (Store.enc (.pointer (some ⟨b2, 0, none⟩)) s).toArray 126 (0, 0))], [(b2, .cells (Dev.enc (v1) (v2) (v3) (v4) d).toArray 85 (0, 0))], g1, g2, g3, g4] ++ [C]) := by
  refine fn_entry (args := [.pointer (some ⟨b1, 0, none⟩), .int .i64 id, v5]) Tryz.func261 rfl Tryz.ntmps261 rfl (fun w0 => ?_)
  refine c_seq ?_
  refine c_region ?_
  refine o_L (y_assign rfl) rfl rfl ?_
  refine o_nil0 rfl ?_
  refine c_seq ?_
  refine c_region ?_
  refine o_L (y_assign rfl) rfl rfl ?_
  refine o_nil0 rfl ?_
  refine c_seq ?_
  refine c_region ?_
  refine o_T (y_move rfl) rfl ?_
  refine o_T (y_move rfl) rfl ?_
  refine o_T (y_nilck rfl) rfl ?_
  refine o_T (y_fa fl_126_1 rfl) rfl ?_
  obtain ⟨_, hx1, hm⟩ := bd hm
  have hx1 := ckA_some hx1
  refine o_T (y_ia ar_121 rfl rfl hx1.1 hx1.2) rfl ?_
  refine o_T (y_fa fl_120_3 rfl) rfl ?_
  refine o_ld one_3 rfl m0 (At.got (((At.refl.comp Store.a_tab).comp (encN_a Entr.len _ _ hx1.1 _ hx1.2)).comp Entr.a_first)) rfl ?_
  refine o_L (y_assign rfl) rfl rfl ?_
  refine o_nil0 rfl ?_
  refine c_seq ?_
  refine c_seq ?_
  refine c_region ?_
  refine o_L (y_assign rfl) rfl rfl ?_
  refine o_nil0 rfl ?_
  obtain ⟨f1, F1, hF1, hj1, hF2⟩ := fl2 hm
  refine c_joinP (n := 0) (fun sh G => ∃ (c4 : Int), ∃ (c5 : Int), ∃ (c6 : Int), sh = [(7, .int .i64 c4), (8, .int .i64 c5), (9, .int .i64 c6)] ∧ G = [] ∧ F1 (c4, c5, c6) = some rc1) (s_take (s_take (s_take (s_take (s_take (s_take (s_take s_nil))))))) .z (fun _ _ h => h) ?_ ?_
  · skip
    refine c_block ?_
    refine c_loopP (n := 0) (fun mm sh G => ∃ (c1 : Int), ∃ (c2 : Int), ∃ (c3 : Int), sh = [(7, .int .i64 c1), (8, .int .i64 c2), (9, .int .i64 c3)] ∧ G = [] ∧ m261_w1 n s d data mm c1 c2 c3 = some f1) n (s_take (s_take (s_take (s_take (s_take (s_take (s_take s_nil))))))) .z ⟨_, _, ⟨_, _, _, rfl, rfl, hj1⟩, ⟨rfl, rfl, rfl, trivial⟩, _, (s_take (s_take (s_take (s_take (s_take (s_take (s_take s_nil)))))))⟩ ?_
    rintro mm sh G ⟨c1, c2, c3, rfl, rfl, hm⟩
    obtain ⟨mm1, rfl, hm⟩ := it3_s hm
    refine c_seq ?_
    refine c_seq ?_
    refine c_joinP (n := 0) (fun sh G => sh = [(25, .bool ((decide (c3 < 3)) && (decide (¬ (c2 = 0)))))] ∧ G = []) Sel.all' .z (fun _ _ h => h) ?_ ?_
    · skip
      refine c_region ?_
      refine o_T (y_move rfl) rfl ?_
      refine o_T (y_lss rfl rfl) rfl ?_
      refine o_T (y_move rfl) rfl ?_
      refine o_split 22 rfl (fun h1 => ?_) (fun h1 => ?_)
      · skip
        refine o_take rfl rfl rfl ?_
        refine o_T (y_move rfl) rfl ?_
        refine o_take rfl rfl rfl ?_
        refine o_T (y_neq rfl rfl) rfl ?_
        refine o_T (y_pickT rfl rfl) rfl ?_
        refine o_nil1 25 rfl rfl ?_
        refine ⟨_, _, ⟨rfl, rfl⟩, ⟨by first | rfl | exact gtb rfl (by simp only [h1, Bool.true_and, Bool.false_and, Bool.true_or, Bool.false_or, Bool.and_true, Bool.and_false, Bool.or_true, Bool.or_false, Bool.not_true, Bool.not_false]), trivial⟩, ⟨rfl, rfl⟩, _, (s_take (s_take (s_take (s_take (s_take (s_take (s_take s_nil)))))))⟩
      · skip
        refine o_pass rfl rfl rfl rfl rfl ?_
        refine o_pass rfl rfl rfl rfl rfl ?_
        refine o_T (y_pickF rfl rfl) rfl ?_
        refine o_nil1 25 rfl rfl ?_
        refine ⟨_, _, ⟨rfl, rfl⟩, ⟨by first | rfl | exact gtb rfl (by simp only [h1, Bool.true_and, Bool.false_and, Bool.true_or, Bool.false_or, Bool.and_true, Bool.and_false, Bool.or_true, Bool.or_false, Bool.not_true, Bool.not_false]), trivial⟩, ⟨rfl, rfl⟩, _, (s_take (s_take (s_take (s_take (s_take (s_take (s_take s_nil)))))))⟩
    · rintro sh G ⟨rfl, rfl⟩
      refine c_cond rfl (fun h2 => ?_) (fun h2 => ?_)
      · have hm := cd_t h2 hm
        refine c_skip ?_
        refine c_seq ?_
        refine c_block ?_
        refine c_seq ?_
        refine c_region ?_
        refine o_T (y_move rfl) rfl ?_
        refine o_T (y_move rfl) rfl ?_
        obtain ⟨l1, hx2, hm⟩ := bd1 hm
        refine o_callC en_163 rfl (s_take (s_take (s_take (s_take (s_take (s_take s_nil)))))) (t163 ho1 ho2 ho3 ho4 hx2) rfl (fun u1 S1 hR1 => ?_)
        obtain ⟨v6, g5, rfl, rfl, ho5⟩ := hR1
        refine o_rest ?_
        refine o_L (y_assign rfl) rfl rfl ?_
        refine o_nil0 rfl ?_
        refine c_seq ?_
        refine c_region ?_
        refine o_T (y_move rfl) rfl ?_
        obtain ⟨c7, hx3, hm⟩ := bd1 hm
        refine o_callC en_295 rfl s_nil (t295 (ho5.rd.mono (fun _ hz => (ms (ms (ms (ms (ms (ms (mg hz))))))))) hx3) rfl (fun u2 S2 hR2 => ?_)
        obtain ⟨rfl, rfl⟩ := hR2
        refine o_rest ?_
        refine o_L (y_assign rfl) rfl rfl ?_
        refine o_nil0 rfl ?_
        refine c_seq ?_
        refine c_seq ?_
        refine c_region ?_
        refine o_L (y_assign rfl) rfl rfl ?_
        refine o_nil0 rfl ?_
        obtain ⟨f2, F2, hF3, hj2, hF4⟩ := fl2 hm
        refine c_joinP (n := 0) (fun sh G => ∃ (c10 : Int), ∃ (c11 : Int), sh = [(7, .int .i64 c10), (12, .int .i64 c11)] ∧ G = [] ∧ F2 (c10, c11) = some f1) (s_take (s_take (s_take (s_take (s_take (s_take (s_take (s_take s_nil)))))))) .z (fun _ _ h => h) ?_ ?_
        · skip
          refine c_block ?_
          refine c_loopP (n := 0) (fun mm sh G => ∃ (c8 : Int), ∃ (c9 : Int), sh = [(7, .int .i64 c8), (12, .int .i64 c9)] ∧ G = [] ∧ m261_w2 n data l1 c7 mm c8 c9 = some f2) n (s_take (s_take (s_take (s_take (s_take (s_take (s_take (s_take s_nil)))))))) .z ⟨_, _, ⟨_, _, rfl, rfl, hj2⟩, ⟨rfl, rfl, trivial⟩, _, (s_take (s_take (s_take (s_take (s_take (s_take (s_take (s_take s_nil))))))))⟩ ?_
          rintro mm sh G ⟨c8, c9, rfl, rfl, hm⟩
          obtain ⟨mm2, rfl, hm⟩ := it2_s hm
          refine c_seq ?_
          refine c_seq ?_
          refine c_joinP (n := 0) (fun sh G => sh = [(41, .bool ((decide (c9 < c7)) && (decide (c8 < (data.length : Int)))))] ∧ G = []) Sel.all' .z (fun _ _ h => h) ?_ ?_
          · skip
            refine c_region ?_
            refine o_T (y_move rfl) rfl ?_
            refine o_T (y_move rfl) rfl ?_
            refine o_T (y_lss rfl rfl) rfl ?_
            refine o_T (y_move rfl) rfl ?_
            refine o_split 36 rfl (fun h3 => ?_) (fun h3 => ?_)
            · skip
              refine o_take rfl rfl rfl ?_
              refine o_T (y_move rfl) rfl ?_
              refine o_take rfl rfl rfl ?_
              refine o_T (y_move rfl) rfl ?_
              refine o_take rfl rfl rfl ?_
              refine o_T (y_lenR hr1 Tryz.underlying81 rfl) rfl ?_
              refine o_take rfl rfl rfl ?_
              refine o_T (y_lss rfl rfl) rfl ?_
              refine o_T (y_pickT rfl rfl) rfl ?_
              refine o_nil1 41 rfl rfl ?_
              refine ⟨_, _, ⟨rfl, rfl⟩, ⟨by first | rfl | exact gtb rfl (by simp only [h3, Bool.true_and, Bool.false_and, Bool.true_or, Bool.false_or, Bool.and_true, Bool.and_false, Bool.or_true, Bool.or_false, Bool.not_true, Bool.not_false]), trivial⟩, ⟨rfl, rfl⟩, _, (s_take (s_take (s_take (s_take (s_take (s_take (s_take (s_take s_nil))))))))⟩
            · skip
              refine o_pass rfl rfl rfl rfl rfl ?_
              refine o_pass rfl rfl rfl rfl rfl ?_
              refine o_pass rfl rfl rfl rfl rfl ?_
              refine o_pass rfl rfl rfl rfl rfl ?_
              refine o_T (y_pickF rfl rfl) rfl ?_
              refine o_nil1 41 rfl rfl ?_
              refine ⟨_, _, ⟨rfl, rfl⟩, ⟨by first | rfl | exact gtb rfl (by simp only [h3, Bool.true_and, Bool.false_and, Bool.true_or, Bool.false_or, Bool.and_true, Bool.and_false, Bool.or_true, Bool.or_false, Bool.not_true, Bool.not_false]), trivial⟩, ⟨rfl, rfl⟩, _, (s_take (s_take (s_take (s_take (s_take (s_take (s_take (s_take s_nil))))))))⟩
          · rintro sh G ⟨rfl, rfl⟩
            refine c_cond rfl (fun h4 => ?_) (fun h4 => ?_)
            · have hm := cd_t h4 hm
              refine c_skip ?_
              refine c_seq ?_
              refine c_block ?_
              refine c_seq ?_
              refine c_seq ?_
              refine c_draw #[true, true, true, true, true, true, true, true, true, true] rfl (n := 10) rfl ?_
              refine d_T 0 rfl sb_261_11_0 rfl (y_move rfl) rfl ?_
              refine d_T 1 rfl sb_261_11_1 rfl (y_move rfl) rfl ?_
              refine d_T 2 rfl sb_261_11_2 rfl (y_add rfl rfl rfl) rfl ?_
              obtain ⟨x1, hx4, hm⟩ := bd hm
              obtain ⟨b3, w1, cs1, y1, z1, vs1, hc1, ha1, hr2, hy1⟩ := ho5.rd.ix hx4
              obtain rfl : vs1 = (enc8 x1) := hr2
              refine d_T 3 rfl sb_261_11_3 rfl (hy1 sl_81 rfl rfl rfl) rfl ?_
              refine d_ld 4 rfl sb_261_11_4 one_5 rfl (fun x hx => hx) (ms (ms (ms (ms (ms (ms (mg hc1))))))) (At.getA (ha1)) rfl ?_
              refine d_T 5 rfl sb_261_11_5 rfl (y_move rfl) rfl ?_
              refine d_T 6 rfl sb_261_11_6 rfl (y_move rfl) rfl ?_
              obtain ⟨x2, hx5, hm⟩ := bd hm
              obtain ⟨b4, w2, cs2, y2, z2, vs2, hc2, ha2, hr3, hy2⟩ := hr1.ix hx5
              obtain rfl : vs2 = (enc8 x2) := hr3
              refine d_T 7 rfl sb_261_11_7 rfl (hy2 sl_81 rfl rfl rfl) rfl ?_
              refine d_ld 8 rfl sb_261_11_8 one_5 rfl (fun x hx => hx) (ms (ms (ms (ms (ms (ms (ms (mg hc2)))))))) (At.getA (ha2)) rfl ?_
              refine d_T 9 rfl sb_261_11_9 rfl (y_neq rfl rfl) rfl ?_
              refine d_nil1 53 sb_261_11_10 rfl rfl ?_
              refine c_cond rfl (fun h5 => ?_) (fun h5 => ?_)
              · have hm := cd_t h5 hm
                refine c_seq ?_
                refine c_region ?_
                refine o_L (y_assign rfl) rfl rfl ?_
                refine o_nil0 rfl ?_
                refine c_ret ?_
                obtain ⟨q1, hq1, hm⟩ := bd hm
                have hm := fl_ret hm hF4
                have hm := hq1.trans hm
                obtain ⟨q2, hq2, hm⟩ := bd hm
                have hm := fl_ret hm hF2
                have hm := hq2.trans hm
                obtain rfl := p1 hm
                refine fun aX wX heX hsX => ret1 Tryz.results261 heX rfl (s_take (s_take (s_take (s_take (s_take (s_take (s_skip (s_take s_nil)))))))) ?_
                exact ⟨rfl, rfl⟩
              · have hm := cd_f h5 hm
                refine c_skip ?_
                refine c_region ?_
                refine o_T (y_move rfl) rfl ?_
                refine o_T (y_add rfl rfl rfl) rfl ?_
                refine o_L (y_assign rfl) rfl rfl ?_
                refine o_nil0 rfl ?_
                refine c_region ?_
                refine o_T (y_move rfl) rfl ?_
                refine o_T (y_add rfl rfl rfl) rfl ?_
                refine o_L (y_assign rfl) rfl rfl ?_
                refine o_nil0 rfl ?_
                exact ⟨mm2, Nat.lt_succ_self _, _, _, ⟨_, _, rfl, rfl, hm⟩, ⟨rfl, rfl, trivial⟩, ⟨rfl, rfl⟩, _, (s_take (s_take (s_take (s_take (s_take (s_take (s_take (s_take s_nil))))))))⟩
            · have hm := cd_f h4 hm
              refine c_exit ?_
              have hm := fl_nx hm hF4
              exact ⟨_, _, ⟨_, _, rfl, rfl, hm⟩, ⟨rfl, rfl, trivial⟩, ⟨rfl, rfl⟩, _, (s_take (s_take (s_take (s_take (s_take (s_take (s_take (s_take s_nil))))))))⟩
        · rintro sh G ⟨c10, c11, rfl, rfl, hm⟩
          subst hF3
          refine c_region ?_
          refine o_T (y_move rfl) rfl ?_
          obtain ⟨c12, hx6, hm⟩ := bd1 hm
          refine o_callC en_243 rfl s_nil (t243 (ho5.rd.mono (fun _ hz => (ms (ms (ms (ms (ms (ms (mg hz))))))))) hx6) rfl (fun u3 S3 hR3 => ?_)
          obtain ⟨rfl, rfl⟩ := hR3
          refine o_rest ?_
          refine o_L (y_assign rfl) rfl rfl ?_
          refine o_nil0 rfl ?_
          refine c_region ?_
          refine o_T (y_move rfl) rfl ?_
          refine o_T (y_add rfl rfl rfl) rfl ?_
          refine o_L (y_assign rfl) rfl rfl ?_
          refine o_nil0 rfl ?_
          exact ⟨mm1, Nat.lt_succ_self _, _, _, ⟨_, _, _, rfl, rfl, hm⟩, ⟨rfl, rfl, rfl, trivial⟩, ⟨rfl, rfl⟩, _, (s_take (s_take (s_take (s_take (s_take (s_take (s_skip (s_take s_nil))))))))⟩
      · have hm := cd_f h2 hm
        refine c_exit ?_
        have hm := fl_nx hm hF2
        exact ⟨_, _, ⟨_, _, _, rfl, rfl, hm⟩, ⟨rfl, rfl, rfl, trivial⟩, ⟨rfl, rfl⟩, _, (s_take (s_take (s_take (s_take (s_take (s_take (s_take s_nil)))))))⟩
  · rintro sh G ⟨c4, c5, c6, rfl, rfl, hm⟩
    subst hF1
    refine c_seq ?_
    refine c_region ?_
    refine o_T (y_move rfl) rfl ?_
    refine o_T (y_move rfl) rfl ?_
    refine o_T (y_lenR hr1 Tryz.underlying81 rfl) rfl ?_
    refine o_T (y_eql rfl rfl) rfl ?_
    refine o_L (y_assign rfl) rfl rfl ?_
    refine o_nil0 rfl ?_
    refine c_ret ?_
    obtain rfl := p1 hm
    refine fun aX wX heX hsX => ret1 Tryz.results261 heX rfl (s_take (s_take (s_take (s_take (s_take (s_take (s_take s_nil))))))) ?_
    exact ⟨rfl, rfl⟩
end Go.Proofs.Qxb6500350aGreat
