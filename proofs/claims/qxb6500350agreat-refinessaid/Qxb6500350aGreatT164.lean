/- MADE BY PROGRAM (tools350/mir.py): mirror and walk. -/
import Derived.Test.Qxb6500350aGreatF2
import Derived.Test.Qxb6500350aGreatT163
set_option linter.unusedVariables false
set_option linter.unusedSimpArgs false
set_option maxRecDepth 20000
set_option maxHeartbeats 4000000
namespace Go.Proofs.Qxb6500350aGreat
open Go.Eng

def op_164_21 : Array Go.Oper := #[{ dst := some 66, op := Go.Op.fieldAddr 120 (Go.Operand.tmp 6) 4, type := 0, pos := "open.go:52", after := #[], guard := none }, { dst := some 67, op := Go.Op.load 118 (Go.Operand.tmp 66), type := 118, pos := "open.go:52", after := #[{ on := 0, ground := Go.Ground.data }], guard := none }, { dst := some 68, op := Go.Op.binOp Go.BinOp.mul 118 (Go.Operand.tmp 67) (Go.Operand.const (Go.Value.int Go.IntKind.u32 31)) 118, type := 118, pos := "open.go:52", after := #[{ on := 1, ground := Go.Ground.data }], guard := none }, { dst := some 69, op := Go.Op.move (Go.Operand.tmp 9), type := 81, pos := "open.go:52", after := #[], guard := none }, { dst := some 70, op := Go.Op.move (Go.Operand.tmp 12), type := 3, pos := "open.go:52", after := #[], guard := none }, { dst := some 71, op := Go.Op.binOp Go.BinOp.add 3 (Go.Operand.const (Go.Value.int Go.IntKind.i64 4)) (Go.Operand.tmp 70) 3, type := 3, pos := "open.go:52", after := #[{ on := 4, ground := Go.Ground.data }], guard := none }, { dst := some 72, op := Go.Op.indexAddr 81 (Go.Operand.tmp 69) (Go.Operand.tmp 71), type := 0, pos := "open.go:52", after := #[{ on := 3, ground := Go.Ground.data }, { on := 5, ground := Go.Ground.data }], guard := none }, { dst := some 73, op := Go.Op.load 5 (Go.Operand.tmp 72), type := 5, pos := "open.go:52", after := #[{ on := 6, ground := Go.Ground.data }], guard := none }, { dst := some 74, op := Go.Op.convert 5 118 (Go.Operand.tmp 73), type := 118, pos := "open.go:52", after := #[{ on := 7, ground := Go.Ground.data }], guard := none }, { dst := some 75, op := Go.Op.binOp Go.BinOp.add 118 (Go.Operand.tmp 68) (Go.Operand.tmp 74) 118, type := 118, pos := "open.go:52", after := #[{ on := 2, ground := Go.Ground.data }, { on := 8, ground := Go.Ground.data }], guard := none }, { dst := some 76, op := Go.Op.fieldAddr 120 (Go.Operand.tmp 6) 4, type := 0, pos := "open.go:52", after := #[{ on := 0, ground := Go.Ground.phase }, { on := 1, ground := Go.Ground.phase }, { on := 2, ground := Go.Ground.phase }, { on := 3, ground := Go.Ground.phase }, { on := 4, ground := Go.Ground.phase }, { on := 5, ground := Go.Ground.phase }, { on := 6, ground := Go.Ground.phase }, { on := 7, ground := Go.Ground.phase }, { on := 8, ground := Go.Ground.phase }, { on := 9, ground := Go.Ground.phase }], guard := none }, { dst := none, op := Go.Op.store 118 (Go.Operand.tmp 76) (Go.Operand.tmp 75), type := 0, pos := "open.go:52", after := #[{ on := 10, ground := Go.Ground.data }, { on := 9, ground := Go.Ground.data }, { on := 0, ground := Go.Ground.phase }, { on := 1, ground := Go.Ground.phase }, { on := 2, ground := Go.Ground.phase }, { on := 3, ground := Go.Ground.phase }, { on := 4, ground := Go.Ground.phase }, { on := 5, ground := Go.Ground.phase }, { on := 6, ground := Go.Ground.phase }, { on := 7, ground := Go.Ground.phase }, { on := 8, ground := Go.Ground.phase }, { on := 9, ground := Go.Ground.phase }], guard := none }]
theorem sb_164_21_0 : softB op_164_21 #[true, true, true, true, true, true, true, true, true, true, true, false] (Array.replicate 12 false) 0 = true := by kernel_rfl
theorem sb_164_21_1 : softB op_164_21 #[true, true, true, true, true, true, true, true, true, true, true, false] ((Array.replicate 12 false).setIfInBounds 0 true) 1 = true := by kernel_rfl
theorem sb_164_21_2 : softB op_164_21 #[true, true, true, true, true, true, true, true, true, true, true, false] (((Array.replicate 12 false).setIfInBounds 0 true).setIfInBounds 1 true) 2 = true := by kernel_rfl
theorem sb_164_21_3 : softB op_164_21 #[true, true, true, true, true, true, true, true, true, true, true, false] ((((Array.replicate 12 false).setIfInBounds 0 true).setIfInBounds 1 true).setIfInBounds 2 true) 3 = true := by kernel_rfl
theorem sb_164_21_4 : softB op_164_21 #[true, true, true, true, true, true, true, true, true, true, true, false] (((((Array.replicate 12 false).setIfInBounds 0 true).setIfInBounds 1 true).setIfInBounds 2 true).setIfInBounds 3 true) 4 = true := by kernel_rfl
theorem sb_164_21_5 : softB op_164_21 #[true, true, true, true, true, true, true, true, true, true, true, false] ((((((Array.replicate 12 false).setIfInBounds 0 true).setIfInBounds 1 true).setIfInBounds 2 true).setIfInBounds 3 true).setIfInBounds 4 true) 5 = true := by kernel_rfl
theorem sb_164_21_6 : softB op_164_21 #[true, true, true, true, true, true, true, true, true, true, true, false] (((((((Array.replicate 12 false).setIfInBounds 0 true).setIfInBounds 1 true).setIfInBounds 2 true).setIfInBounds 3 true).setIfInBounds 4 true).setIfInBounds 5 true) 6 = true := by kernel_rfl
theorem sb_164_21_7 : softB op_164_21 #[true, true, true, true, true, true, true, true, true, true, true, false] ((((((((Array.replicate 12 false).setIfInBounds 0 true).setIfInBounds 1 true).setIfInBounds 2 true).setIfInBounds 3 true).setIfInBounds 4 true).setIfInBounds 5 true).setIfInBounds 6 true) 7 = true := by kernel_rfl
theorem sb_164_21_8 : softB op_164_21 #[true, true, true, true, true, true, true, true, true, true, true, false] (((((((((Array.replicate 12 false).setIfInBounds 0 true).setIfInBounds 1 true).setIfInBounds 2 true).setIfInBounds 3 true).setIfInBounds 4 true).setIfInBounds 5 true).setIfInBounds 6 true).setIfInBounds 7 true) 8 = true := by kernel_rfl
theorem sb_164_21_9 : softB op_164_21 #[true, true, true, true, true, true, true, true, true, true, true, false] ((((((((((Array.replicate 12 false).setIfInBounds 0 true).setIfInBounds 1 true).setIfInBounds 2 true).setIfInBounds 3 true).setIfInBounds 4 true).setIfInBounds 5 true).setIfInBounds 6 true).setIfInBounds 7 true).setIfInBounds 8 true) 9 = true := by kernel_rfl
theorem sb_164_21_10 : softB op_164_21 #[true, true, true, true, true, true, true, true, true, true, true, false] (((((((((((Array.replicate 12 false).setIfInBounds 0 true).setIfInBounds 1 true).setIfInBounds 2 true).setIfInBounds 3 true).setIfInBounds 4 true).setIfInBounds 5 true).setIfInBounds 6 true).setIfInBounds 7 true).setIfInBounds 8 true).setIfInBounds 9 true) 10 = true := by kernel_rfl
theorem sb_164_21_11 : hardB op_164_21 ((((((((((((Array.replicate 12 false).setIfInBounds 0 true).setIfInBounds 1 true).setIfInBounds 2 true).setIfInBounds 3 true).setIfInBounds 4 true).setIfInBounds 5 true).setIfInBounds 6 true).setIfInBounds 7 true).setIfInBounds 8 true).setIfInBounds 9 true).setIfInBounds 10 true) [11] = true := by kernel_rfl
theorem sb_164_21_12 : hardB op_164_21 (((((((((((((Array.replicate 12 false).setIfInBounds 0 true).setIfInBounds 1 true).setIfInBounds 2 true).setIfInBounds 3 true).setIfInBounds 4 true).setIfInBounds 5 true).setIfInBounds 6 true).setIfInBounds 7 true).setIfInBounds 8 true).setIfInBounds 9 true).setIfInBounds 10 true).setIfInBounds 11 true) [] = true := by kernel_rfl
/- (*objects.Store).survey -/
def m164_w2 (n : Nat) (l1 : List UInt8) (x2 : UInt8) (mm : Nat) : Int → Entr → Option (Int × Entr) := it2 (fun lp2 c5 z12 =>
cond (decide (c5 < (x2.toNat : Int))) (
Option.bind (ixL l1 (wi (4 + c5))) fun x3 =>
nm ({ z12 with hash := (ww ((ww (z12.hash * 31)) + (x3.toNat : Int))) } : Entr) fun z15 =>
lp2 (wi (c5 + 1)) z15) (
some (c5, z12))) mm
def m164_w1 (n : Nat) (s : Store) (d : Dev) (mm : Nat) : Int → Int → Entr → Option (Flow (Entr × Bool) (Int × Int × Entr)) := it3 (fun lp1 c1 c2 z2 =>
cond (decide (c2 < 3)) (
cond ((decide (c1 < 1)) || (decide ((145 : Int) ≤ c1))) (
nm (Entr.zero : Entr) fun z4 =>
Option.bind (some (z4, false)) fun q1 => some (.ret q1)) (
ob1 (m163 n s d c1) fun l1 =>
Option.bind (ixL l1 0) fun x1 =>
Option.bind (ixL l1 2) fun x2 =>
cond (((decide ((x1.toNat : Int) < 1)) || (decide ((4 : Int) < (x1.toNat : Int)))) || (decide ((60 : Int) < (x2.toNat : Int)))) (
nm (Entr.zero : Entr) fun z7 =>
Option.bind (some (z7, false)) fun q2 => some (.ret q2)) (
ob1 (cond (decide (c2 = 0)) (
nm ({ z2 with kind := (x1.toNat : Int) } : Entr) fun z9 =>
nm ({ z9 with hash := (ww (x1.toNat : Int)) } : Entr) fun z10 =>
some z10) (
some z2)) fun z8 =>
cond (decide (¬ ((x1.toNat : Int) = z8.kind))) (
nm (Entr.zero : Entr) fun z11 =>
Option.bind (some (z11, false)) fun q3 => some (.ret q3)) (
ob2 (m164_w2 n l1 x2 n 0 z8) fun c6 z13 =>
nm ({ z13 with size := (wi (z13.size + (x2.toNat : Int))) } : Entr) fun z16 =>
Option.bind (ixL l1 1) fun x4 =>
cond (decide ((x4.toNat : Int) = 0)) (
nm (z16 : Entr) fun z18 =>
Option.bind (some (z18, true)) fun q4 => some (.ret q4)) (
lp1 (x4.toNat : Int) (wi (c2 + 1)) z16))))) (
some (.nx (c1, c2, z2)))) mm
def m164 (n : Nat) (s : Store) (d : Dev) (first : Int) : Option (Entr × Bool) :=
nm (({ Entr.zero with state := 2, first := first }) : Entr) fun z1 =>
flow (m164_w1 n s d n first 0 z1) some (un3 fun c3 c4 z3 =>
nm (Entr.zero : Entr) fun z19 =>
some (z19, false))
theorem t164 {n : Nat} {C : List Chunk} {rx1 : Entr} {rc1 : Bool} {b1 : Nat} {s : Store} {b2 : Nat} {d : Dev} {v1 : Value} {g1 : List Chunk} {v2 : Value} {g2 : List Chunk} {v3 : Value} {g3 : List Chunk} {v4 : Value} {g4 : List Chunk} {first : Int} (ho1 : Own rByte v1 d.blk g1) (ho2 : Own rByte v2 d.base g2) (ho3 : Own rInt v3 d.at_ g3) (ho4 : Own rByte v4 d.data g4)  (hm : m164 n s d first = some (rx1, rc1)) : Trip Tryz.prog 164 #[.pointer (some ⟨b1, 0, none⟩), .int .i64 first] ([[(b1, .cells (Store.enc (.pointer (some ⟨b2, 0, none⟩)) s).toArray 126 (0, 0))], [(b2, .cells (Dev.enc (v1) (v2) (v3) (v4) d).toArray 85 (0, 0))], g1, g2, g3, g4] ++ [C]) (fun u S' => .tuple #[.agg (Entr.enc rx1).toArray, .bool rc1] = u ∧ S' = [[(b1, .cells (Store.enc (.pointer (some ⟨b2, 0, none⟩)) s).toArray 126 (0, 0))], [(b2, .cells (Dev.enc (v1) (v2) (v3) (v4) d).toArray 85 (0, 0))], g1, g2, g3, g4] ++ [C]) := by
  refine fn_entry (args := [.pointer (some ⟨b1, 0, none⟩), .int .i64 first]) Tryz.func164 rfl Tryz.ntmps164 rfl (fun w0 => ?_)
  refine c_seq ?_
  refine c_region ?_
  refine o_alloc ze_120 rfl rfl (fun b3 => ?_)
  refine o_L (y_assign rfl) rfl rfl ?_
  refine o_nil0 rfl ?_
  refine c_seq ?_
  refine c_region ?_
  refine o_T (y_move rfl) rfl ?_
  refine o_T (y_build st_120 rfl (fbU rfl Entr.u_state rfl rfl (fbU rfl Entr.u_first rfl rfl fbU0))) rfl ?_
  refine o_alloc ze_120 rfl rfl (fun b4 => ?_)
  obtain ⟨z1, hn1, hm⟩ := nm_s hm
  refine o_stNA ag_120 rfl rfl (Entr.plain _) (Entr.len _) (Upd.refl ((Entr.len _).trans (Entr.len _).symm)) r0 (show (Entr.enc z1) = _ from by subst hn1; rfl) ?_
  refine o_nil0 rfl ?_
  refine c_seq ?_
  refine c_region ?_
  refine o_T (y_move rfl) rfl ?_
  refine o_L (y_assign rfl) rfl rfl ?_
  refine o_nil0 rfl ?_
  refine c_seq ?_
  refine c_seq ?_
  refine c_region ?_
  refine o_L (y_assign rfl) rfl rfl ?_
  refine o_nil0 rfl ?_
  obtain ⟨f1, F1, hF1, hj1, hF2⟩ := fl2 hm
  refine c_joinP (n := 1) (fun sh G => ∃ (c3 : Int), ∃ (c4 : Int), ∃ (z3 : Entr), sh = [(7, .int .i64 c3), (8, .int .i64 c4)] ∧ G = [[(b4, .cells (Entr.enc z3).toArray 120 (0, 0))]] ∧ F1 (c3, c4, z3) = some (rx1, rc1)) (s_take (s_take (s_take (s_take (s_take (s_take (s_take (s_take (s_take s_nil))))))))) (.s .z) (fun _ _ h => h) ?_ ?_
  · skip
    refine c_block ?_
    refine c_loopP (n := 1) (fun mm sh G => ∃ (c1 : Int), ∃ (c2 : Int), ∃ (z2 : Entr), sh = [(7, .int .i64 c1), (8, .int .i64 c2)] ∧ G = [[(b4, .cells (Entr.enc z2).toArray 120 (0, 0))]] ∧ m164_w1 n s d mm c1 c2 z2 = some f1) n (s_take (s_take (s_take (s_take (s_take (s_take (s_take (s_take (s_take s_nil))))))))) (.s .z) ⟨_, _, ⟨_, _, _, rfl, rfl, hj1⟩, ⟨rfl, rfl, trivial⟩, _, (s_take (s_take (s_take (s_take (s_take (s_take (s_take (s_take (s_take s_nil)))))))))⟩ ?_
    rintro mm sh G ⟨c1, c2, z2, rfl, rfl, hm⟩
    obtain ⟨mm1, rfl, hm⟩ := it3_s hm
    refine c_seq ?_
    refine c_seq ?_
    refine c_region ?_
    refine o_T (y_move rfl) rfl ?_
    refine o_T (y_lss rfl rfl) rfl ?_
    refine o_nil1 17 rfl rfl ?_
    refine c_cond rfl (fun h1 => ?_) (fun h1 => ?_)
    · have hm := cd_t h1 hm
      refine c_skip ?_
      refine c_seq ?_
      refine c_block ?_
      refine c_seq ?_
      refine c_seq ?_
      refine c_joinP (n := 0) (fun sh G => sh = [(25, .bool ((decide (c1 < 1)) || (decide ((145 : Int) ≤ c1))))] ∧ G = []) Sel.all' .z (fun _ _ h => h) ?_ ?_
      · skip
        refine c_region ?_
        refine o_T (y_move rfl) rfl ?_
        refine o_T (y_lss rfl rfl) rfl ?_
        refine o_T (y_move rfl) rfl ?_
        refine o_split 22 rfl (fun h2 => ?_) (fun h2 => ?_)
        · skip
          refine o_pass rfl rfl rfl rfl rfl ?_
          refine o_pass rfl rfl rfl rfl rfl ?_
          refine o_T (y_pickT rfl rfl) rfl ?_
          refine o_nil1 25 rfl rfl ?_
          refine ⟨_, _, ⟨rfl, rfl⟩, ⟨by first | rfl | exact gtb rfl (by simp only [h2, Bool.true_and, Bool.false_and, Bool.true_or, Bool.false_or, Bool.and_true, Bool.and_false, Bool.or_true, Bool.or_false, Bool.not_true, Bool.not_false]), trivial⟩, ⟨rfl, rfl⟩, _, (s_take (s_take (s_take (s_take (s_take (s_take (s_take (s_take (s_take s_nil)))))))))⟩
        · skip
          refine o_take rfl rfl rfl ?_
          refine o_T (y_move rfl) rfl ?_
          refine o_take rfl rfl rfl ?_
          refine o_T (y_geq rfl rfl) rfl ?_
          refine o_T (y_pickF rfl rfl) rfl ?_
          refine o_nil1 25 rfl rfl ?_
          refine ⟨_, _, ⟨rfl, rfl⟩, ⟨by first | rfl | exact gtb rfl (by simp only [h2, Bool.true_and, Bool.false_and, Bool.true_or, Bool.false_or, Bool.and_true, Bool.and_false, Bool.or_true, Bool.or_false, Bool.not_true, Bool.not_false]), trivial⟩, ⟨rfl, rfl⟩, _, (s_take (s_take (s_take (s_take (s_take (s_take (s_take (s_take (s_take s_nil)))))))))⟩
      · rintro sh G ⟨rfl, rfl⟩
        refine c_cond rfl (fun h3 => ?_) (fun h3 => ?_)
        · have hm := cd_t h3 hm
          refine c_seq ?_
          refine c_region ?_
          refine o_T (y_build st_120 rfl fbU0) rfl ?_
          obtain ⟨z4, hn2, hm⟩ := nm_s hm
          refine o_stNA ag_120 rfl rfl (Entr.plain _) (Entr.len _) (Upd.refl ((Entr.len _).trans (Entr.len _).symm)) (rs r0) (show (Entr.enc z4) = _ from by subst hn2; rfl) ?_
          refine o_L (y_assign rfl) rfl rfl ?_
          refine o_nil0 rfl ?_
          refine c_ret ?_
          obtain ⟨q1, hq1, hm⟩ := bd hm
          have hm := fl_ret hm hF2
          have hm := hq1.trans hm
          obtain ⟨rfl, rfl⟩ := pr2 hm
          refine fun aX wX heX hsX => retct Tryz.results164 heX hsX rfl rfl ag_120 (ms m0) (by simp [Entr.len]) (s_skip (s_skip (s_take (s_take (s_take (s_take (s_take (s_take (s_take s_nil))))))))) ?_
          exact ⟨rfl, rfl⟩
        · have hm := cd_f h3 hm
          refine c_skip ?_
          refine c_seq ?_
          refine c_region ?_
          refine o_T (y_move rfl) rfl ?_
          refine o_T (y_move rfl) rfl ?_
          obtain ⟨l1, hx1, hm⟩ := bd1 hm
          refine o_callC en_163 rfl (s_skip (s_skip (s_take (s_take (s_take (s_take (s_take (s_take s_nil)))))))) (t163 ho1 ho2 ho3 ho4 hx1) rfl (fun u1 S1 hR1 => ?_)
          obtain ⟨v5, g5, rfl, rfl, ho5⟩ := hR1
          refine o_rest ?_
          refine o_L (y_assign rfl) rfl rfl ?_
          refine o_nil0 rfl ?_
          refine c_seq ?_
          refine c_region ?_
          refine o_T (y_move rfl) rfl ?_
          obtain ⟨x1, hx2, hm⟩ := bd hm
          obtain ⟨b5, w1, cs1, y1, z5, vs1, hc1, ha1, hr1, hy1⟩ := ho5.rd.ix hx2
          obtain rfl : vs1 = (enc8 x1) := hr1
          refine o_T (hy1 sl_81 rfl rfl rfl) rfl ?_
          refine o_ld one_5 rfl (ms (ms (ms (ms (ms (ms (mg hc1))))))) (At.getA (ha1)) rfl ?_
          refine o_T (y_conv Tryz.underlying5 Tryz.underlying3 rfl (wbi _)) rfl ?_
          refine o_L (y_assign rfl) rfl rfl ?_
          refine o_nil0 rfl ?_
          refine c_seq ?_
          refine c_region ?_
          refine o_T (y_move rfl) rfl ?_
          obtain ⟨x2, hx3, hm⟩ := bd hm
          obtain ⟨b6, w2, cs2, y2, z6, vs2, hc2, ha2, hr2, hy2⟩ := ho5.rd.ix hx3
          obtain rfl : vs2 = (enc8 x2) := hr2
          refine o_T (hy2 sl_81 rfl rfl rfl) rfl ?_
          refine o_ld one_5 rfl (ms (ms (ms (ms (ms (ms (mg hc2))))))) (At.getA (ha2)) rfl ?_
          refine o_T (y_conv Tryz.underlying5 Tryz.underlying3 rfl (wbi _)) rfl ?_
          refine o_L (y_assign rfl) rfl rfl ?_
          refine o_nil0 rfl ?_
          refine c_seq ?_
          refine c_seq ?_
          refine c_joinP (n := 0) (fun sh G => sh = [(47, .bool (((decide ((x1.toNat : Int) < 1)) || (decide ((4 : Int) < (x1.toNat : Int)))) || (decide ((60 : Int) < (x2.toNat : Int)))))] ∧ G = []) Sel.all' .z (fun _ _ h => h) ?_ ?_
          · skip
            refine c_region ?_
            refine o_T (y_move rfl) rfl ?_
            refine o_T (y_lss rfl rfl) rfl ?_
            refine o_T (y_move rfl) rfl ?_
            refine o_split 40 rfl (fun h4 => ?_) (fun h4 => ?_)
            · skip
              refine o_pass rfl rfl rfl rfl rfl ?_
              refine o_pass rfl rfl rfl rfl rfl ?_
              refine o_T (y_pickT rfl rfl) rfl ?_
              refine o_T (y_move rfl) rfl ?_
              refine o_pass rfl rfl rfl rfl rfl ?_
              refine o_pass rfl rfl rfl rfl rfl ?_
              refine o_T (y_pickT rfl rfl) rfl ?_
              refine o_nil1 47 rfl rfl ?_
              refine ⟨_, _, ⟨rfl, rfl⟩, ⟨by first | rfl | exact gtb rfl (by simp only [h4, Bool.true_and, Bool.false_and, Bool.true_or, Bool.false_or, Bool.and_true, Bool.and_false, Bool.or_true, Bool.or_false, Bool.not_true, Bool.not_false]), trivial⟩, ⟨rfl, rfl⟩, _, (s_take (s_take (s_take (s_take (s_take (s_take (s_take (s_take (s_take (s_take s_nil))))))))))⟩
            · skip
              refine o_take rfl rfl rfl ?_
              refine o_T (y_move rfl) rfl ?_
              refine o_take rfl rfl rfl ?_
              refine o_T (y_gtr rfl rfl) rfl ?_
              refine o_T (y_pickF rfl rfl) rfl ?_
              refine o_T (y_move rfl) rfl ?_
              refine o_split 44 rfl (fun h5 => ?_) (fun h5 => ?_)
              · skip
                refine o_pass rfl rfl rfl rfl rfl ?_
                refine o_pass rfl rfl rfl rfl rfl ?_
                refine o_T (y_pickT rfl rfl) rfl ?_
                refine o_nil1 47 rfl rfl ?_
                refine ⟨_, _, ⟨rfl, rfl⟩, ⟨by first | rfl | exact gtb rfl (by simp only [h4, h5, Bool.true_and, Bool.false_and, Bool.true_or, Bool.false_or, Bool.and_true, Bool.and_false, Bool.or_true, Bool.or_false, Bool.not_true, Bool.not_false]), trivial⟩, ⟨rfl, rfl⟩, _, (s_take (s_take (s_take (s_take (s_take (s_take (s_take (s_take (s_take (s_take s_nil))))))))))⟩
              · skip
                refine o_take rfl rfl rfl ?_
                refine o_T (y_move rfl) rfl ?_
                refine o_take rfl rfl rfl ?_
                refine o_T (y_gtr rfl rfl) rfl ?_
                refine o_T (y_pickF rfl rfl) rfl ?_
                refine o_nil1 47 rfl rfl ?_
                refine ⟨_, _, ⟨rfl, rfl⟩, ⟨by first | rfl | exact gtb rfl (by simp only [h4, h5, Bool.true_and, Bool.false_and, Bool.true_or, Bool.false_or, Bool.and_true, Bool.and_false, Bool.or_true, Bool.or_false, Bool.not_true, Bool.not_false]), trivial⟩, ⟨rfl, rfl⟩, _, (s_take (s_take (s_take (s_take (s_take (s_take (s_take (s_take (s_take (s_take s_nil))))))))))⟩
          · rintro sh G ⟨rfl, rfl⟩
            refine c_cond rfl (fun h6 => ?_) (fun h6 => ?_)
            · have hm := cd_t h6 hm
              refine c_seq ?_
              refine c_region ?_
              refine o_T (y_build st_120 rfl fbU0) rfl ?_
              obtain ⟨z7, hn3, hm⟩ := nm_s hm
              refine o_stNA ag_120 rfl rfl (Entr.plain _) (Entr.len _) (Upd.refl ((Entr.len _).trans (Entr.len _).symm)) (rs (rs (rs (rs (rs (rs (rs (rs r0)))))))) (show (Entr.enc z7) = _ from by subst hn3; rfl) ?_
              refine o_L (y_assign rfl) rfl rfl ?_
              refine o_nil0 rfl ?_
              refine c_ret ?_
              obtain ⟨q2, hq2, hm⟩ := bd hm
              have hm := fl_ret hm hF2
              have hm := hq2.trans hm
              obtain ⟨rfl, rfl⟩ := pr2 hm
              refine fun aX wX heX hsX => retct Tryz.results164 heX hsX rfl rfl ag_120 (ms (ms (ms (ms (ms (ms (ms (ms m0)))))))) (by simp [Entr.len]) (s_take (s_take (s_take (s_take (s_take (s_take (s_skip (s_skip (s_skip (s_take s_nil)))))))))) ?_
              exact ⟨rfl, rfl⟩
            · have hm := cd_f h6 hm
              refine c_skip ?_
              refine c_seq ?_
              refine c_seq ?_
              refine c_region ?_
              refine o_T (y_move rfl) rfl ?_
              refine o_T (y_eql rfl rfl) rfl ?_
              refine o_nil1 50 rfl rfl ?_
              obtain ⟨z8, hj2, hm⟩ := bd1 hm
              refine c_joinP (n := 1) (fun sh G => sh = [] ∧ G = [[(b4, .cells (Entr.enc z8).toArray 120 (0, 0))]]) (s_get (ks (ks (ks (ks (ks (ks (ks k0))))))) (s_take (s_take (s_take (s_take (s_take (s_take (s_take (s_take (s_take s_nil)))))))))) (.s .z) (fun _ _ h => h) ?_ ?_
              · have hm := hj2
                refine c_cond rfl (fun h7 => ?_) (fun h7 => ?_)
                · have hm := cd_t h7 hm
                  refine c_seq ?_
                  refine c_region ?_
                  refine o_T (y_move rfl) rfl ?_
                  refine o_T (y_fa fl_120_1 rfl) rfl ?_
                  obtain ⟨z9, hn4, hm⟩ := nm_s hm
                  refine o_stN one_3 rfl rfl rfl (Upd.z Entr.u_kind) (rs (rs (rs (rs (rs (rs (rs r0))))))) (show (Entr.enc z9) = _ from by subst hn4; rfl) ?_
                  refine o_nil0 rfl ?_
                  refine c_region ?_
                  refine o_T (y_move rfl) rfl ?_
                  refine o_T (y_conv Tryz.underlying3 Tryz.underlying118 rfl rfl) rfl ?_
                  refine o_T (y_fa fl_120_4 rfl) rfl ?_
                  obtain ⟨z10, hn5, hm⟩ := nm_s hm
                  refine o_stN one_118 rfl rfl rfl (Upd.z Entr.u_hash) (rs (rs (rs (rs (rs (rs (rs r0))))))) (show (Entr.enc z10) = _ from by subst hn5; rfl) ?_
                  refine o_nil0 rfl ?_
                  obtain rfl := p1 hm
                  exact ⟨_, _, ⟨rfl, rfl⟩, trivial, ⟨rfl, rfl⟩, _, (s_get (ks (ks (ks (ks (ks (ks (ks k0))))))) (s_take (s_take (s_take (s_take (s_take (s_take (s_take (s_take (s_take s_nil))))))))))⟩
                · have hm := cd_f h7 hm
                  refine c_skip ?_
                  obtain rfl := p1 hm
                  exact ⟨_, _, ⟨rfl, rfl⟩, trivial, ⟨rfl, rfl⟩, _, (s_get (ks (ks (ks (ks (ks (ks (ks k0))))))) (s_take (s_take (s_take (s_take (s_take (s_take (s_take (s_take (s_take s_nil))))))))))⟩
              · rintro sh G ⟨rfl, rfl⟩
                refine c_seq ?_
                refine c_seq ?_
                refine c_region ?_
                refine o_T (y_move rfl) rfl ?_
                refine o_T (y_fa fl_120_1 rfl) rfl ?_
                refine o_ld one_3 rfl m0 (At.got (At.refl.comp Entr.a_kind)) rfl ?_
                refine o_T (y_neq rfl rfl) rfl ?_
                refine o_nil1 59 rfl rfl ?_
                refine c_cond rfl (fun h8 => ?_) (fun h8 => ?_)
                · have hm := cd_t h8 hm
                  refine c_seq ?_
                  refine c_region ?_
                  refine o_T (y_build st_120 rfl fbU0) rfl ?_
                  obtain ⟨z11, hn6, hm⟩ := nm_s hm
                  refine o_stNA ag_120 rfl rfl (Entr.plain _) (Entr.len _) (Upd.refl ((Entr.len _).trans (Entr.len _).symm)) (rs (rs (rs (rs (rs (rs (rs (rs r0)))))))) (show (Entr.enc z11) = _ from by subst hn6; rfl) ?_
                  refine o_L (y_assign rfl) rfl rfl ?_
                  refine o_nil0 rfl ?_
                  refine c_ret ?_
                  obtain ⟨q3, hq3, hm⟩ := bd hm
                  have hm := fl_ret hm hF2
                  have hm := hq3.trans hm
                  obtain ⟨rfl, rfl⟩ := pr2 hm
                  refine fun aX wX heX hsX => retct Tryz.results164 heX hsX rfl rfl ag_120 (ms (ms (ms (ms (ms (ms (ms (ms m0)))))))) (by simp [Entr.len]) (s_skip (s_take (s_take (s_take (s_take (s_take (s_take (s_skip (s_skip (s_take s_nil)))))))))) ?_
                  exact ⟨rfl, rfl⟩
                · have hm := cd_f h8 hm
                  refine c_skip ?_
                  refine c_seq ?_
                  refine c_seq ?_
                  refine c_region ?_
                  refine o_L (y_assign rfl) rfl rfl ?_
                  refine o_nil0 rfl ?_
                  obtain ⟨c6, z13, hj3, hm⟩ := bd2 hm
                  refine c_joinP (n := 1) (fun sh G => sh = [(12, .int .i64 c6)] ∧ G = [[(b4, .cells (Entr.enc z13).toArray 120 (0, 0))]]) (s_take (s_take (s_take (s_take (s_take (s_take (s_take (s_take (s_take (s_take s_nil)))))))))) (.s .z) (fun _ _ h => h) ?_ ?_
                  · skip
                    refine c_block ?_
                    refine c_loopP (n := 1) (fun mm sh G => ∃ (c5 : Int), ∃ (z12 : Entr), sh = [(12, .int .i64 c5)] ∧ G = [[(b4, .cells (Entr.enc z12).toArray 120 (0, 0))]] ∧ m164_w2 n l1 x2 mm c5 z12 = some (c6, z13)) n (s_take (s_take (s_take (s_take (s_take (s_take (s_take (s_take (s_take (s_take s_nil)))))))))) (.s .z) ⟨_, _, ⟨_, _, rfl, rfl, hj3⟩, ⟨rfl, trivial⟩, _, (s_take (s_take (s_take (s_take (s_take (s_take (s_take (s_take (s_take (s_take s_nil))))))))))⟩ ?_
                    rintro mm sh G ⟨c5, z12, rfl, rfl, hm⟩
                    obtain ⟨mm2, rfl, hm⟩ := it2_s hm
                    refine c_seq ?_
                    refine c_seq ?_
                    refine c_region ?_
                    refine o_T (y_move rfl) rfl ?_
                    refine o_T (y_move rfl) rfl ?_
                    refine o_T (y_lss rfl rfl) rfl ?_
                    refine o_nil1 63 rfl rfl ?_
                    refine c_cond rfl (fun h9 => ?_) (fun h9 => ?_)
                    · have hm := cd_t h9 hm
                      refine c_skip ?_
                      refine c_seq ?_
                      refine c_block ?_
                      refine c_draw #[true, true, true, true, true, true, true, true, true, true, true, false] rfl (n := 12) rfl ?_
                      refine d_T 0 rfl sb_164_21_0 rfl (y_fa fl_120_4 rfl) rfl ?_
                      refine d_ld 1 rfl sb_164_21_1 one_118 rfl (fun x hx => hx) m0 (At.got (At.refl.comp Entr.a_hash)) rfl ?_
                      refine d_T 2 rfl sb_164_21_2 rfl (y_mul rfl rfl rfl) rfl ?_
                      refine d_T 3 rfl sb_164_21_3 rfl (y_move rfl) rfl ?_
                      refine d_T 4 rfl sb_164_21_4 rfl (y_move rfl) rfl ?_
                      refine d_T 5 rfl sb_164_21_5 rfl (y_add rfl rfl rfl) rfl ?_
                      obtain ⟨x3, hx4, hm⟩ := bd hm
                      obtain ⟨b7, w3, cs3, y3, z14, vs3, hc3, ha3, hr3, hy3⟩ := ho5.rd.ix hx4
                      obtain rfl : vs3 = (enc8 x3) := hr3
                      refine d_T 6 rfl sb_164_21_6 rfl (hy3 sl_81 rfl rfl rfl) rfl ?_
                      refine d_ld 7 rfl sb_164_21_7 one_5 rfl (fun x hx => hx) (ms (ms (ms (ms (ms (ms (ms (mg hc3)))))))) (At.getA (ha3)) rfl ?_
                      refine d_cv 8 rfl sb_164_21_8 (fun x hx => hx) (y_conv Tryz.underlying5 Tryz.underlying118 rfl (wbw _)) rfl ?_
                      refine d_T 9 rfl sb_164_21_9 rfl (y_add rfl rfl rfl) rfl ?_
                      refine d_T 10 rfl sb_164_21_10 rfl (y_fa fl_120_4 rfl) rfl ?_
                      refine d_hard 11 rfl sb_164_21_11 ?_
                      obtain ⟨z15, hn7, hm⟩ := nm_s hm
                      refine o_stN one_118 rfl rfl rfl (Upd.z Entr.u_hash) r0 (show (Entr.enc z15) = _ from by subst hn7; rfl) ?_
                      refine o_stop (fun h => nomatch h) ?_
                      refine d_nil0 sb_164_21_12 rfl ?_
                      refine c_region ?_
                      refine o_T (y_move rfl) rfl ?_
                      refine o_T (y_add rfl rfl rfl) rfl ?_
                      refine o_L (y_assign rfl) rfl rfl ?_
                      refine o_nil0 rfl ?_
                      exact ⟨mm2, Nat.lt_succ_self _, _, _, ⟨_, _, rfl, rfl, hm⟩, ⟨rfl, trivial⟩, ⟨rfl, rfl⟩, _, (s_take (s_take (s_take (s_take (s_take (s_take (s_take (s_take (s_take (s_take s_nil))))))))))⟩
                    · have hm := cd_f h9 hm
                      refine c_exit ?_
                      obtain ⟨rfl, rfl⟩ := pr2 hm
                      exact ⟨_, _, ⟨rfl, rfl⟩, ⟨rfl, trivial⟩, ⟨rfl, rfl⟩, _, (s_take (s_take (s_take (s_take (s_take (s_take (s_take (s_take (s_take (s_take s_nil))))))))))⟩
                  · rintro sh G ⟨rfl, rfl⟩
                    refine c_seq ?_
                    refine c_region ?_
                    refine o_T (y_fa fl_120_2 rfl) rfl ?_
                    refine o_ld one_3 rfl m0 (At.got (At.refl.comp Entr.a_size)) rfl ?_
                    refine o_T (y_move rfl) rfl ?_
                    refine o_T (y_add rfl rfl rfl) rfl ?_
                    refine o_T (y_fa fl_120_2 rfl) rfl ?_
                    obtain ⟨z16, hn8, hm⟩ := nm_s hm
                    refine o_stN one_3 rfl rfl rfl (Upd.z Entr.u_size) r0 (show (Entr.enc z16) = _ from by subst hn8; rfl) ?_
                    refine o_nil0 rfl ?_
                    refine c_seq ?_
                    refine c_region ?_
                    refine o_T (y_move rfl) rfl ?_
                    obtain ⟨x4, hx5, hm⟩ := bd hm
                    obtain ⟨b8, w4, cs4, y4, z17, vs4, hc4, ha4, hr4, hy4⟩ := ho5.rd.ix hx5
                    obtain rfl : vs4 = (enc8 x4) := hr4
                    refine o_T (hy4 sl_81 rfl rfl rfl) rfl ?_
                    refine o_ld one_5 rfl (ms (ms (ms (ms (ms (ms (ms (mg hc4)))))))) (At.getA (ha4)) rfl ?_
                    refine o_T (y_conv Tryz.underlying5 Tryz.underlying3 rfl (wbi _)) rfl ?_
                    refine o_L (y_assign rfl) rfl rfl ?_
                    refine o_nil0 rfl ?_
                    refine c_seq ?_
                    refine c_region ?_
                    refine o_T (y_move rfl) rfl ?_
                    refine o_T (y_eql rfl rfl) rfl ?_
                    refine o_nil1 87 rfl rfl ?_
                    refine c_cond rfl (fun h10 => ?_) (fun h10 => ?_)
                    · have hm := cd_t h10 hm
                      refine c_seq ?_
                      refine c_region ?_
                      refine o_lda ag_120 rfl m0 (At.exs At.refl (Entr.len _)) (At.fits At.refl (Entr.len _)) rfl ?_
                      obtain ⟨z18, hn9, hm⟩ := nm_s hm
                      refine o_stNA ag_120 rfl rfl (Entr.plain _) (Entr.len _) (Upd.refl ((Entr.len _).trans (Entr.len _).symm)) (rs (rs (rs (rs (rs (rs (rs (rs r0)))))))) (show (Entr.enc z18) = _ from by subst hn9; rfl) ?_
                      refine o_L (y_assign rfl) rfl rfl ?_
                      refine o_nil0 rfl ?_
                      refine c_ret ?_
                      obtain ⟨q4, hq4, hm⟩ := bd hm
                      have hm := fl_ret hm hF2
                      have hm := hq4.trans hm
                      obtain ⟨rfl, rfl⟩ := pr2 hm
                      refine fun aX wX heX hsX => retct Tryz.results164 heX hsX rfl rfl ag_120 (ms (ms (ms (ms (ms (ms (ms (ms m0)))))))) (by simp [Entr.len]) (s_skip (s_take (s_take (s_take (s_take (s_take (s_take (s_skip (s_skip (s_take s_nil)))))))))) ?_
                      exact ⟨rfl, rfl⟩
                    · have hm := cd_f h10 hm
                      refine c_skip ?_
                      refine c_region ?_
                      refine o_T (y_move rfl) rfl ?_
                      refine o_T (y_add rfl rfl rfl) rfl ?_
                      refine o_L (y_assign rfl) rfl rfl ?_
                      refine o_nil0 rfl ?_
                      exact ⟨mm1, Nat.lt_succ_self _, _, _, ⟨_, _, _, rfl, rfl, hm⟩, ⟨rfl, rfl, trivial⟩, ⟨rfl, rfl⟩, _, (s_take (s_get (ks (ks (ks (ks (ks (ks (ks k0))))))) (s_take (s_take (s_take (s_take (s_take (s_take (s_skip (s_take s_nil))))))))))⟩
    · have hm := cd_f h1 hm
      refine c_exit ?_
      have hm := fl_nx hm hF2
      exact ⟨_, _, ⟨_, _, _, rfl, rfl, hm⟩, ⟨rfl, rfl, trivial⟩, ⟨rfl, rfl⟩, _, (s_take (s_take (s_take (s_take (s_take (s_take (s_take (s_take (s_take s_nil)))))))))⟩
  · rintro sh G ⟨c3, c4, z3, rfl, rfl, hm⟩
    subst hF1
    refine c_seq ?_
    refine c_region ?_
    refine o_T (y_build st_120 rfl fbU0) rfl ?_
    obtain ⟨z19, hn10, hm⟩ := nm_s hm
    refine o_stNA ag_120 rfl rfl (Entr.plain _) (Entr.len _) (Upd.refl ((Entr.len _).trans (Entr.len _).symm)) (rs r0) (show (Entr.enc z19) = _ from by subst hn10; rfl) ?_
    refine o_L (y_assign rfl) rfl rfl ?_
    refine o_nil0 rfl ?_
    refine c_ret ?_
    obtain ⟨rfl, rfl⟩ := pr2 hm
    refine fun aX wX heX hsX => retct Tryz.results164 heX hsX rfl rfl ag_120 (ms m0) (by simp [Entr.len]) (s_skip (s_skip (s_take (s_take (s_take (s_take (s_take (s_take (s_take s_nil))))))))) ?_
    exact ⟨rfl, rfl⟩
end Go.Proofs.Qxb6500350aGreat
