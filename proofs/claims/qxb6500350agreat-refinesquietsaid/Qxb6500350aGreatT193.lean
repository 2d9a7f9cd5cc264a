/- MADE BY PROGRAM (tools350/mir.py): mirror and walk. -/
import Derived.Test.Qxb6500350aGreatF2
import Derived.Test.Qxb6500350aGreatT260
import Derived.Test.Qxb6500350aGreatT261
set_option linter.unusedVariables false
set_option linter.unusedSimpArgs false
set_option maxRecDepth 20000
set_option maxHeartbeats 4000000
namespace Go.Proofs.Qxb6500350aGreat
open Go.Eng

def op_193_7 : Array Go.Oper := #[{ dst := some 30, op := Go.Op.move (Go.Operand.tmp 0), type := 28, pos := "check.go:138", after := #[], guard := none }, { dst := some 31, op := Go.Op.move (Go.Operand.tmp 3), type := 3, pos := "check.go:138", after := #[], guard := none }, { dst := some 32, op := Go.Op.nilCheck (Go.Operand.tmp 30), type := 0, pos := "check.go:138", after := #[{ on := 0, ground := Go.Ground.data }], guard := none }, { dst := some 33, op := Go.Op.fieldAddr 126 (Go.Operand.tmp 32) 1, type := 0, pos := "check.go:138", after := #[{ on := 2, ground := Go.Ground.data }], guard := none }, { dst := some 34, op := Go.Op.indexAddr 121 (Go.Operand.tmp 33) (Go.Operand.tmp 31), type := 0, pos := "check.go:138", after := #[{ on := 3, ground := Go.Ground.data }, { on := 1, ground := Go.Ground.data }], guard := none }, { dst := some 35, op := Go.Op.load 120 (Go.Operand.tmp 34), type := 120, pos := "check.go:138", after := #[{ on := 4, ground := Go.Ground.data }], guard := none }, { dst := some 36, op := Go.Op.move (Go.Operand.tmp 0), type := 28, pos := "check.go:138", after := #[{ on := 14, ground := Go.Ground.gcOnly Go.Departure.lateStores }], guard := none }, { dst := some 37, op := Go.Op.move (Go.Operand.tmp 4), type := 3, pos := "check.go:138", after := #[{ on := 14, ground := Go.Ground.gcOnly Go.Departure.lateStores }], guard := none }, { dst := some 38, op := Go.Op.nilCheck (Go.Operand.tmp 36), type := 0, pos := "check.go:138", after := #[{ on := 6, ground := Go.Ground.data }, { on := 14, ground := Go.Ground.gcOnly Go.Departure.lateStores }], guard := none }, { dst := some 39, op := Go.Op.fieldAddr 126 (Go.Operand.tmp 38) 1, type := 0, pos := "check.go:138", after := #[{ on := 8, ground := Go.Ground.data }, { on := 14, ground := Go.Ground.gcOnly Go.Departure.lateStores }], guard := none }, { dst := some 40, op := Go.Op.indexAddr 121 (Go.Operand.tmp 39) (Go.Operand.tmp 37), type := 0, pos := "check.go:138", after := #[{ on := 9, ground := Go.Ground.data }, { on := 7, ground := Go.Ground.data }, { on := 14, ground := Go.Ground.gcOnly Go.Departure.lateStores }], guard := none }, { dst := some 41, op := Go.Op.load 120 (Go.Operand.tmp 40), type := 120, pos := "check.go:138", after := #[{ on := 10, ground := Go.Ground.data }, { on := 14, ground := Go.Ground.gcOnly Go.Departure.lateStores }], guard := none }, { dst := some 5, op := Go.Op.alloc 120, type := 0, pos := "check.go:138", after := #[], guard := none }, { dst := some 6, op := Go.Op.alloc 120, type := 0, pos := "check.go:138", after := #[], guard := none }, { dst := none, op := Go.Op.store 120 (Go.Operand.tmp 5) (Go.Operand.tmp 35), type := 0, pos := "check.go:138", after := #[{ on := 12, ground := Go.Ground.data }, { on := 5, ground := Go.Ground.data }, { on := 0, ground := Go.Ground.phase }, { on := 1, ground := Go.Ground.phase }, { on := 2, ground := Go.Ground.phase }, { on := 3, ground := Go.Ground.phase }, { on := 4, ground := Go.Ground.phase }, { on := 5, ground := Go.Ground.phase }, { on := 6, ground := Go.Ground.textOnly Go.Departure.lateStores }, { on := 7, ground := Go.Ground.textOnly Go.Departure.lateStores }, { on := 8, ground := Go.Ground.textOnly Go.Departure.lateStores }, { on := 9, ground := Go.Ground.textOnly Go.Departure.lateStores }, { on := 10, ground := Go.Ground.textOnly Go.Departure.lateStores }, { on := 11, ground := Go.Ground.textOnly Go.Departure.lateStores }, { on := 12, ground := Go.Ground.phase }, { on := 13, ground := Go.Ground.phase }], guard := none }, { dst := none, op := Go.Op.store 120 (Go.Operand.tmp 6) (Go.Operand.tmp 41), type := 0, pos := "check.go:138", after := #[{ on := 13, ground := Go.Ground.data }, { on := 11, ground := Go.Ground.data }, { on := 14, ground := Go.Ground.chain }, { on := 0, ground := Go.Ground.phase }, { on := 1, ground := Go.Ground.phase }, { on := 2, ground := Go.Ground.phase }, { on := 3, ground := Go.Ground.phase }, { on := 4, ground := Go.Ground.phase }, { on := 5, ground := Go.Ground.phase }, { on := 6, ground := Go.Ground.phase }, { on := 7, ground := Go.Ground.phase }, { on := 8, ground := Go.Ground.phase }, { on := 9, ground := Go.Ground.phase }, { on := 10, ground := Go.Ground.phase }, { on := 11, ground := Go.Ground.phase }, { on := 12, ground := Go.Ground.phase }, { on := 13, ground := Go.Ground.phase }, { on := 14, ground := Go.Ground.phase }], guard := none }]
theorem sb_193_7_0 : softB op_193_7 #[true, true, true, true, true, true, true, true, true, true, true, true, true, true, true, true] (Array.replicate 16 false) 0 = true := by kernel_rfl
theorem sb_193_7_1 : softB op_193_7 #[true, true, true, true, true, true, true, true, true, true, true, true, true, true, true, true] ((Array.replicate 16 false).setIfInBounds 0 true) 1 = true := by kernel_rfl
theorem sb_193_7_2 : softB op_193_7 #[true, true, true, true, true, true, true, true, true, true, true, true, true, true, true, true] (((Array.replicate 16 false).setIfInBounds 0 true).setIfInBounds 1 true) 2 = true := by kernel_rfl
theorem sb_193_7_3 : softB op_193_7 #[true, true, true, true, true, true, true, true, true, true, true, true, true, true, true, true] ((((Array.replicate 16 false).setIfInBounds 0 true).setIfInBounds 1 true).setIfInBounds 2 true) 3 = true := by kernel_rfl
theorem sb_193_7_4 : softB op_193_7 #[true, true, true, true, true, true, true, true, true, true, true, true, true, true, true, true] (((((Array.replicate 16 false).setIfInBounds 0 true).setIfInBounds 1 true).setIfInBounds 2 true).setIfInBounds 3 true) 4 = true := by kernel_rfl
theorem sb_193_7_5 : softB op_193_7 #[true, true, true, true, true, true, true, true, true, true, true, true, true, true, true, true] ((((((Array.replicate 16 false).setIfInBounds 0 true).setIfInBounds 1 true).setIfInBounds 2 true).setIfInBounds 3 true).setIfInBounds 4 true) 5 = true := by kernel_rfl
theorem sb_193_7_6 : softB op_193_7 #[true, true, true, true, true, true, true, true, true, true, true, true, true, true, true, true] (((((((Array.replicate 16 false).setIfInBounds 0 true).setIfInBounds 1 true).setIfInBounds 2 true).setIfInBounds 3 true).setIfInBounds 4 true).setIfInBounds 5 true) 6 = true := by kernel_rfl
theorem sb_193_7_7 : softB op_193_7 #[true, true, true, true, true, true, true, true, true, true, true, true, true, true, true, true] ((((((((Array.replicate 16 false).setIfInBounds 0 true).setIfInBounds 1 true).setIfInBounds 2 true).setIfInBounds 3 true).setIfInBounds 4 true).setIfInBounds 5 true).setIfInBounds 6 true) 7 = true := by kernel_rfl
theorem sb_193_7_8 : softB op_193_7 #[true, true, true, true, true, true, true, true, true, true, true, true, true, true, true, true] (((((((((Array.replicate 16 false).setIfInBounds 0 true).setIfInBounds 1 true).setIfInBounds 2 true).setIfInBounds 3 true).setIfInBounds 4 true).setIfInBounds 5 true).setIfInBounds 6 true).setIfInBounds 7 true) 8 = true := by kernel_rfl
theorem sb_193_7_9 : softB op_193_7 #[true, true, true, true, true, true, true, true, true, true, true, true, true, true, true, true] ((((((((((Array.replicate 16 false).setIfInBounds 0 true).setIfInBounds 1 true).setIfInBounds 2 true).setIfInBounds 3 true).setIfInBounds 4 true).setIfInBounds 5 true).setIfInBounds 6 true).setIfInBounds 7 true).setIfInBounds 8 true) 9 = true := by kernel_rfl
theorem sb_193_7_10 : softB op_193_7 #[true, true, true, true, true, true, true, true, true, true, true, true, true, true, true, true] (((((((((((Array.replicate 16 false).setIfInBounds 0 true).setIfInBounds 1 true).setIfInBounds 2 true).setIfInBounds 3 true).setIfInBounds 4 true).setIfInBounds 5 true).setIfInBounds 6 true).setIfInBounds 7 true).setIfInBounds 8 true).setIfInBounds 9 true) 10 = true := by kernel_rfl
theorem sb_193_7_11 : softB op_193_7 #[true, true, true, true, true, true, true, true, true, true, true, true, true, true, true, true] ((((((((((((Array.replicate 16 false).setIfInBounds 0 true).setIfInBounds 1 true).setIfInBounds 2 true).setIfInBounds 3 true).setIfInBounds 4 true).setIfInBounds 5 true).setIfInBounds 6 true).setIfInBounds 7 true).setIfInBounds 8 true).setIfInBounds 9 true).setIfInBounds 10 true) 11 = true := by kernel_rfl
theorem sb_193_7_12 : hardB op_193_7 (((((((((((((Array.replicate 16 false).setIfInBounds 0 true).setIfInBounds 1 true).setIfInBounds 2 true).setIfInBounds 3 true).setIfInBounds 4 true).setIfInBounds 5 true).setIfInBounds 6 true).setIfInBounds 7 true).setIfInBounds 8 true).setIfInBounds 9 true).setIfInBounds 10 true).setIfInBounds 11 true) [12, 13] = true := by kernel_rfl
theorem sb_193_7_13 : hardB op_193_7 ((((((((((((((Array.replicate 16 false).setIfInBounds 0 true).setIfInBounds 1 true).setIfInBounds 2 true).setIfInBounds 3 true).setIfInBounds 4 true).setIfInBounds 5 true).setIfInBounds 6 true).setIfInBounds 7 true).setIfInBounds 8 true).setIfInBounds 9 true).setIfInBounds 10 true).setIfInBounds 11 true).setIfInBounds 12 true) [13] = true := by kernel_rfl
theorem sb_193_7_14 : hardB op_193_7 (((((((((((((((Array.replicate 16 false).setIfInBounds 0 true).setIfInBounds 1 true).setIfInBounds 2 true).setIfInBounds 3 true).setIfInBounds 4 true).setIfInBounds 5 true).setIfInBounds 6 true).setIfInBounds 7 true).setIfInBounds 8 true).setIfInBounds 9 true).setIfInBounds 10 true).setIfInBounds 11 true).setIfInBounds 12 true).setIfInBounds 13 true) [14] = true := by kernel_rfl
theorem sb_193_7_15 : hardB op_193_7 ((((((((((((((((Array.replicate 16 false).setIfInBounds 0 true).setIfInBounds 1 true).setIfInBounds 2 true).setIfInBounds 3 true).setIfInBounds 4 true).setIfInBounds 5 true).setIfInBounds 6 true).setIfInBounds 7 true).setIfInBounds 8 true).setIfInBounds 9 true).setIfInBounds 10 true).setIfInBounds 11 true).setIfInBounds 12 true).setIfInBounds 13 true).setIfInBounds 14 true) [15] = true := by kernel_rfl
theorem sb_193_7_16 : hardB op_193_7 (((((((((((((((((Array.replicate 16 false).setIfInBounds 0 true).setIfInBounds 1 true).setIfInBounds 2 true).setIfInBounds 3 true).setIfInBounds 4 true).setIfInBounds 5 true).setIfInBounds 6 true).setIfInBounds 7 true).setIfInBounds 8 true).setIfInBounds 9 true).setIfInBounds 10 true).setIfInBounds 11 true).setIfInBounds 12 true).setIfInBounds 13 true).setIfInBounds 14 true).setIfInBounds 15 true) [] = true := by kernel_rfl
theorem sb_193_7_17 : hardB op_193_7 ((((((((((((((Array.replicate 16 false).setIfInBounds 0 true).setIfInBounds 1 true).setIfInBounds 2 true).setIfInBounds 3 true).setIfInBounds 4 true).setIfInBounds 5 true).setIfInBounds 6 true).setIfInBounds 7 true).setIfInBounds 8 true).setIfInBounds 9 true).setIfInBounds 10 true).setIfInBounds 11 true).setIfInBounds 13 true) [12] = true := by kernel_rfl
theorem sb_193_7_18 : hardB op_193_7 (((((((((((((((Array.replicate 16 false).setIfInBounds 0 true).setIfInBounds 1 true).setIfInBounds 2 true).setIfInBounds 3 true).setIfInBounds 4 true).setIfInBounds 5 true).setIfInBounds 6 true).setIfInBounds 7 true).setIfInBounds 8 true).setIfInBounds 9 true).setIfInBounds 10 true).setIfInBounds 11 true).setIfInBounds 13 true).setIfInBounds 12 true) [14] = true := by kernel_rfl
theorem sb_193_7_19 : hardB op_193_7 ((((((((((((((((Array.replicate 16 false).setIfInBounds 0 true).setIfInBounds 1 true).setIfInBounds 2 true).setIfInBounds 3 true).setIfInBounds 4 true).setIfInBounds 5 true).setIfInBounds 6 true).setIfInBounds 7 true).setIfInBounds 8 true).setIfInBounds 9 true).setIfInBounds 10 true).setIfInBounds 11 true).setIfInBounds 13 true).setIfInBounds 12 true).setIfInBounds 14 true) [15] = true := by kernel_rfl
theorem sb_193_7_20 : hardB op_193_7 (((((((((((((((((Array.replicate 16 false).setIfInBounds 0 true).setIfInBounds 1 true).setIfInBounds 2 true).setIfInBounds 3 true).setIfInBounds 4 true).setIfInBounds 5 true).setIfInBounds 6 true).setIfInBounds 7 true).setIfInBounds 8 true).setIfInBounds 9 true).setIfInBounds 10 true).setIfInBounds 11 true).setIfInBounds 13 true).setIfInBounds 12 true).setIfInBounds 14 true).setIfInBounds 15 true) [] = true := by kernel_rfl
/- (*objects.Store).noTwins -/
def m193_w2 (n : Nat) (s : Store) (d : Dev) (c1 : Int) (mm : Nat) : Int → Option (Flow (Flow (Bool) (Int)) (Int)) := it1 (fun lp2 c3 =>
ob1 (cond (decide (c3 ≤ 48)) (Option.bind (ckA c1 49) fun _ =>
some ((decide (¬ ((s.tab c1).state = 0))))) (some (false))) fun c5 =>
cond c5 (
Option.bind (ckA c1 49) fun _ =>
Option.bind (ckA c3 49) fun _ =>
nm ((s.tab c1) : Entr) fun z1 =>
nm ((s.tab c3) : Entr) fun z2 =>
cond ((((((decide (z1.state = 1)) || (decide (z1.state = 2))) && ((decide (z2.state = 1)) || (decide (z2.state = 2)))) && (decide (z1.kind = z2.kind))) && (decide (z1.size = z2.size))) && (decide (z1.hash = z2.hash))) (
ob1 (m260 n s d c1) fun l1 =>
ob1 (m261 n s d c3 l1) fun c6 =>
cond c6 (
Option.bind (Option.bind (some false) fun q2 => some (.ret q2)) fun q1 => some (.ret q1)) (
lp2 (wi (c3 + 1)))) (
lp2 (wi (c3 + 1)))) (
some (.nx c3))) mm
def m193_w1 (n : Nat) (s : Store) (d : Dev) (mm : Nat) : Int → Option (Flow (Bool) (Int)) := it1 (fun lp1 c1 =>
cond (decide (c1 ≤ 48)) (
flow (m193_w2 n s d c1 n (wi (c1 + 1))) some (un1 fun c4 =>
lp1 (wi (c1 + 1)))) (
some (.nx c1))) mm
def m193 (n : Nat) (s : Store) (d : Dev) : Option (Bool) :=
flow (m193_w1 n s d n 1) some (un1 fun c2 =>
some true)
theorem t193 {n : Nat} {C : List Chunk} {rc1 : Bool} {b1 : Nat} {s : Store} {b2 : Nat} {d : Dev} {v1 : Value} {g1 : List Chunk} {v2 : Value} {g2 : List Chunk} {v3 : Value} {g3 : List Chunk} {v4 : Value} {g4 : List Chunk} (ho1 : Own rByte v1 d.blk g1) (ho2 : Own rByte v2 d.base g2) (ho3 : Own rInt v3 d.at_ g3) (ho4 : Own rByte v4 d.data g4)  (hm : m193 n s d = some rc1) : Trip Tryz.prog 193 #[.pointer (some ⟨b1, 0, none⟩)] ([[(b1, .cells (Store.enc (.pointer (some ⟨b2, 0, none⟩)) s).toArray 126 (0, 0))], [(b2, .cells (Dev.enc (v1) (v2) (v3) (v4) d).toArray 85 (0, 0))], g1, g2, g3, g4] ++ [C]) (fun u S' => .bool rc1 = u ∧ S' = [[(b1, .cells (Store.enc (.pointer (some ⟨b2, 0, none⟩)) s).toArray 126 (0, 0))], [(b2, .cells (Dev.enc (v1) (v2) (v3) (v4) d).toArray 85 (0, 0))], g1, g2, g3, g4] ++ [C]) := by
  refine fn_entry (args := [.pointer (some ⟨b1, 0, none⟩)]) Tryz.func193 rfl Tryz.ntmps193 rfl (fun w0 => ?_)
  refine c_seq ?_
  refine c_region ?_
  refine o_L (y_assign rfl) rfl rfl ?_
  refine o_nil0 rfl ?_
  refine c_seq ?_
  refine c_seq ?_
  refine c_region ?_
  refine o_L (y_assign rfl) rfl rfl ?_
  refine o_nil0 rfl ?_
  obtain ⟨f1, F1, hF1, hj1, hF2⟩ := fl2 hm
  refine c_joinP (n := 0) (fun sh G => ∃ (c2 : Int), sh = [(3, .int .i64 c2)] ∧ G = [] ∧ F1 c2 = some rc1) (s_take (s_take (s_take (s_take (s_take (s_take (s_take s_nil))))))) .z (fun _ _ h => h) ?_ ?_
  · skip
    refine c_block ?_
    refine c_loopP (n := 0) (fun mm sh G => ∃ (c1 : Int), sh = [(3, .int .i64 c1)] ∧ G = [] ∧ m193_w1 n s d mm c1 = some f1) n (s_take (s_take (s_take (s_take (s_take (s_take (s_take s_nil))))))) .z ⟨_, _, ⟨_, rfl, rfl, hj1⟩, ⟨rfl, trivial⟩, _, (s_take (s_take (s_take (s_take (s_take (s_take (s_take s_nil)))))))⟩ ?_
    rintro mm sh G ⟨c1, rfl, rfl, hm⟩
    obtain ⟨mm1, rfl, hm⟩ := it1_s hm
    refine c_seq ?_
    refine c_seq ?_
    refine c_region ?_
    refine o_T (y_move rfl) rfl ?_
    refine o_T (y_leq rfl rfl) rfl ?_
    refine o_nil1 11 rfl rfl ?_
    refine c_cond rfl (fun h1 => ?_) (fun h1 => ?_)
    · have hm := cd_t h1 hm
      refine c_skip ?_
      refine c_seq ?_
      refine c_block ?_
      refine c_seq ?_
      refine c_region ?_
      refine o_T (y_move rfl) rfl ?_
      refine o_T (y_add rfl rfl rfl) rfl ?_
      refine o_L (y_assign rfl) rfl rfl ?_
      refine o_nil0 rfl ?_
      obtain ⟨f2, F2, hF3, hj2, hF4⟩ := fl2 hm
      refine c_joinP (n := 0) (fun sh G => ∃ (c4 : Int), sh = [(4, .int .i64 c4)] ∧ G = [] ∧ F2 c4 = some f1) (s_take (s_take (s_take (s_take (s_take (s_take (s_take s_nil))))))) .z (fun _ _ h => h) ?_ ?_
      · skip
        refine c_block ?_
        refine c_loopP (n := 0) (fun mm sh G => ∃ (c3 : Int), sh = [(4, .int .i64 c3)] ∧ G = [] ∧ m193_w2 n s d c1 mm c3 = some f2) n (s_take (s_take (s_take (s_take (s_take (s_take (s_take s_nil))))))) .z ⟨_, _, ⟨_, rfl, rfl, hj2⟩, ⟨rfl, trivial⟩, _, (s_take (s_take (s_take (s_take (s_take (s_take (s_take s_nil)))))))⟩ ?_
        rintro mm sh G ⟨c3, rfl, rfl, hm⟩
        obtain ⟨mm2, rfl, hm⟩ := it1_s hm
        refine c_seq ?_
        refine c_seq ?_
        obtain ⟨c5, hj3, hm⟩ := bd1 hm
        refine c_joinP (n := 0) (fun sh G => sh = [(27, .bool c5)] ∧ G = []) Sel.all' .z (fun _ _ h => h) ?_ ?_
        · have hm := hj3
          refine c_region ?_
          refine o_T (y_move rfl) rfl ?_
          refine o_T (y_leq rfl rfl) rfl ?_
          refine o_T (y_move rfl) rfl ?_
          refine o_split 18 rfl (fun h2 => ?_) (fun h2 => ?_)
          · have hm := cd_t h2 hm
            refine o_take rfl rfl rfl ?_
            refine o_T (y_move rfl) rfl ?_
            refine o_take rfl rfl rfl ?_
            refine o_T (y_move rfl) rfl ?_
            refine o_take rfl rfl rfl ?_
            refine o_T (y_nilck rfl) rfl ?_
            refine o_take rfl rfl rfl ?_
            refine o_T (y_fa fl_126_1 rfl) rfl ?_
            refine o_take rfl rfl rfl ?_
            obtain ⟨_, hx1, hm⟩ := bd hm
            have hx1 := ckA_some hx1
            refine o_T (y_ia ar_121 rfl rfl hx1.1 hx1.2) rfl ?_
            refine o_take rfl rfl rfl ?_
            refine o_T (y_fa fl_120_0 rfl) rfl ?_
            refine o_take rfl rfl rfl ?_
            refine o_ld one_3 rfl m0 (At.got (((At.refl.comp Store.a_tab).comp (encN_a Entr.len _ _ hx1.1 _ hx1.2)).comp Entr.a_state)) rfl ?_
            refine o_take rfl rfl rfl ?_
            refine o_T (y_neq rfl rfl) rfl ?_
            refine o_T (y_pickT rfl rfl) rfl ?_
            refine o_nil1 27 rfl rfl ?_
            obtain rfl := p1 hm
            exact ⟨_, _, ⟨rfl, rfl⟩, ⟨rfl, trivial⟩, ⟨rfl, rfl⟩, _, (s_take (s_take (s_take (s_take (s_take (s_take (s_take s_nil)))))))⟩
          · have hm := cd_f h2 hm
            refine o_pass rfl rfl rfl rfl rfl ?_
            refine o_pass rfl rfl rfl rfl rfl ?_
            refine o_pass rfl rfl rfl rfl rfl ?_
            refine o_pass rfl rfl rfl rfl rfl ?_
            refine o_pass rfl rfl rfl rfl rfl ?_
            refine o_pass rfl rfl rfl rfl rfl ?_
            refine o_pass rfl rfl rfl rfl rfl ?_
            refine o_pass rfl rfl rfl rfl rfl ?_
            refine o_T (y_pickF rfl rfl) rfl ?_
            refine o_nil1 27 rfl rfl ?_
            obtain rfl := p1 hm
            exact ⟨_, _, ⟨rfl, rfl⟩, ⟨rfl, trivial⟩, ⟨rfl, rfl⟩, _, (s_take (s_take (s_take (s_take (s_take (s_take (s_take s_nil)))))))⟩
        · rintro sh G ⟨rfl, rfl⟩
          refine c_cond rfl (fun h3 => ?_) (fun h3 => ?_)
          · have hm := cd_t h3 hm
            refine c_skip ?_
            refine c_seq ?_
            refine c_block ?_
            refine c_seq ?_
            refine c_draw #[true, true, true, true, true, true, true, true, true, true, true, true, true, true, true, true] rfl (n := 16) rfl ?_
            refine d_T 0 rfl sb_193_7_0 rfl (y_move rfl) rfl ?_
            refine d_T 1 rfl sb_193_7_1 rfl (y_move rfl) rfl ?_
            refine d_T 2 rfl sb_193_7_2 rfl (y_nilck rfl) rfl ?_
            refine d_T 3 rfl sb_193_7_3 rfl (y_fa fl_126_1 rfl) rfl ?_
            obtain ⟨_, hx2, hm⟩ := bd hm
            have hx2 := ckA_some hx2
            refine d_T 4 rfl sb_193_7_4 rfl (y_ia ar_121 rfl rfl hx2.1 hx2.2) rfl ?_
            refine d_lda 5 rfl sb_193_7_5 ag_120 rfl (fun x hx => hx) m0 (At.exs ((At.refl.comp Store.a_tab).comp (encN_a Entr.len _ _ hx2.1 _ hx2.2)) (Entr.len _)) (At.fits ((At.refl.comp Store.a_tab).comp (encN_a Entr.len _ _ hx2.1 _ hx2.2)) (Entr.len _)) rfl ?_
            refine d_T 6 rfl sb_193_7_6 rfl (y_move rfl) rfl ?_
            refine d_T 7 rfl sb_193_7_7 rfl (y_move rfl) rfl ?_
            refine d_T 8 rfl sb_193_7_8 rfl (y_nilck rfl) rfl ?_
            refine d_T 9 rfl sb_193_7_9 rfl (y_fa fl_126_1 rfl) rfl ?_
            obtain ⟨_, hx3, hm⟩ := bd hm
            have hx3 := ckA_some hx3
            refine d_T 10 rfl sb_193_7_10 rfl (y_ia ar_121 rfl rfl hx3.1 hx3.2) rfl ?_
            refine d_lda 11 rfl sb_193_7_11 ag_120 rfl (fun x hx => hx) m0 (At.exs ((At.refl.comp Store.a_tab).comp (encN_a Entr.len _ _ hx3.1 _ hx3.2)) (Entr.len _)) (At.fits ((At.refl.comp Store.a_tab).comp (encN_a Entr.len _ _ hx3.1 _ hx3.2)) (Entr.len _)) rfl ?_
            refine d_hard2 12 13 rfl rfl sb_193_7_12 ?_ ?_
            · skip
              refine o_alloc ze_120 rfl rfl (fun b3 => ?_)
              refine o_stop (fun _ => (fun x hx => (ms hx))) ?_
              refine d_hard 13 rfl sb_193_7_13 ?_
              refine o_alloc ze_120 rfl rfl (fun b4 => ?_)
              refine o_stop (fun _ => (fun x hx => (ms (ms hx)))) ?_
              refine d_hard 14 rfl sb_193_7_14 ?_
              obtain ⟨z1, hn1, hm⟩ := nm_s hm
              refine o_stNA ag_120 rfl rfl (Entr.plain _) (Entr.len _) (Upd.refl ((Entr.len _).trans (Entr.len _).symm)) (rs r0) (show (Entr.enc z1) = _ from by subst hn1; rfl) ?_
              refine o_stop (fun _ => (fun x hx => (ms (ms hx)))) ?_
              refine d_hard 15 rfl sb_193_7_15 ?_
              obtain ⟨z2, hn2, hm⟩ := nm_s hm
              refine o_stNA ag_120 rfl rfl (Entr.plain _) (Entr.len _) (Upd.refl ((Entr.len _).trans (Entr.len _).symm)) r0 (show (Entr.enc z2) = _ from by subst hn2; rfl) ?_
              refine o_stop (fun _ => (fun x hx => (ms (ms hx)))) ?_
              refine d_nil0 sb_193_7_16 rfl ?_
              refine c_seq ?_
              refine c_joinP (n := 0) (fun sh G => sh = [(7, .bool ((decide (z1.state = 1)) || (decide (z1.state = 2))))] ∧ G = []) Sel.all' .z (fun _ _ h => h) ?_ ?_
              · skip
                refine c_region ?_
                refine o_T (y_fa fl_120_0 rfl) rfl ?_
                refine o_ld one_3 rfl (ms m0) (At.got (At.refl.comp Entr.a_state)) rfl ?_
                refine o_T (y_eql rfl rfl) rfl ?_
                refine o_T (y_move rfl) rfl ?_
                refine o_split 45 rfl (fun h4 => ?_) (fun h4 => ?_)
                · skip
                  refine o_pass rfl rfl rfl rfl rfl ?_
                  refine o_pass rfl rfl rfl rfl rfl ?_
                  refine o_pass rfl rfl rfl rfl rfl ?_
                  refine o_T (y_pickT rfl rfl) rfl ?_
                  refine o_L (y_assign rfl) rfl rfl ?_
                  refine o_nil0 rfl ?_
                  refine ⟨_, _, ⟨rfl, rfl⟩, ⟨by first | rfl | exact gtb rfl (by simp only [h4, Bool.true_and, Bool.false_and, Bool.true_or, Bool.false_or, Bool.and_true, Bool.and_false, Bool.or_true, Bool.or_false, Bool.not_true, Bool.not_false]), trivial⟩, ⟨rfl, rfl⟩, _, (s_take (s_take (s_take (s_take (s_take (s_take (s_take (s_take (s_take s_nil)))))))))⟩
                · skip
                  refine o_take rfl rfl rfl ?_
                  refine o_T (y_fa fl_120_0 rfl) rfl ?_
                  refine o_take rfl rfl rfl ?_
                  refine o_ld one_3 rfl (ms m0) (At.got (At.refl.comp Entr.a_state)) rfl ?_
                  refine o_take rfl rfl rfl ?_
                  refine o_T (y_eql rfl rfl) rfl ?_
                  refine o_T (y_pickF rfl rfl) rfl ?_
                  refine o_L (y_assign rfl) rfl rfl ?_
                  refine o_nil0 rfl ?_
                  refine ⟨_, _, ⟨rfl, rfl⟩, ⟨by first | rfl | exact gtb rfl (by simp only [h4, Bool.true_and, Bool.false_and, Bool.true_or, Bool.false_or, Bool.and_true, Bool.and_false, Bool.or_true, Bool.or_false, Bool.not_true, Bool.not_false]), trivial⟩, ⟨rfl, rfl⟩, _, (s_take (s_take (s_take (s_take (s_take (s_take (s_take (s_take (s_take s_nil)))))))))⟩
              · rintro sh G ⟨rfl, rfl⟩
                refine c_seq ?_
                refine c_joinP (n := 0) (fun sh G => sh = [(8, .bool ((decide (z2.state = 1)) || (decide (z2.state = 2))))] ∧ G = []) Sel.all' .z (fun _ _ h => h) ?_ ?_
                · skip
                  refine c_region ?_
                  refine o_T (y_fa fl_120_0 rfl) rfl ?_
                  refine o_ld one_3 rfl m0 (At.got (At.refl.comp Entr.a_state)) rfl ?_
                  refine o_T (y_eql rfl rfl) rfl ?_
                  refine o_T (y_move rfl) rfl ?_
                  refine o_split 53 rfl (fun h5 => ?_) (fun h5 => ?_)
                  · skip
                    refine o_pass rfl rfl rfl rfl rfl ?_
                    refine o_pass rfl rfl rfl rfl rfl ?_
                    refine o_pass rfl rfl rfl rfl rfl ?_
                    refine o_T (y_pickT rfl rfl) rfl ?_
                    refine o_L (y_assign rfl) rfl rfl ?_
                    refine o_nil0 rfl ?_
                    refine ⟨_, _, ⟨rfl, rfl⟩, ⟨by first | rfl | exact gtb rfl (by simp only [h5, Bool.true_and, Bool.false_and, Bool.true_or, Bool.false_or, Bool.and_true, Bool.and_false, Bool.or_true, Bool.or_false, Bool.not_true, Bool.not_false]), trivial⟩, ⟨rfl, rfl⟩, _, (s_take (s_take (s_take (s_take (s_take (s_take (s_take (s_take (s_take s_nil)))))))))⟩
                  · skip
                    refine o_take rfl rfl rfl ?_
                    refine o_T (y_fa fl_120_0 rfl) rfl ?_
                    refine o_take rfl rfl rfl ?_
                    refine o_ld one_3 rfl m0 (At.got (At.refl.comp Entr.a_state)) rfl ?_
                    refine o_take rfl rfl rfl ?_
                    refine o_T (y_eql rfl rfl) rfl ?_
                    refine o_T (y_pickF rfl rfl) rfl ?_
                    refine o_L (y_assign rfl) rfl rfl ?_
                    refine o_nil0 rfl ?_
                    refine ⟨_, _, ⟨rfl, rfl⟩, ⟨by first | rfl | exact gtb rfl (by simp only [h5, Bool.true_and, Bool.false_and, Bool.true_or, Bool.false_or, Bool.and_true, Bool.and_false, Bool.or_true, Bool.or_false, Bool.not_true, Bool.not_false]), trivial⟩, ⟨rfl, rfl⟩, _, (s_take (s_take (s_take (s_take (s_take (s_take (s_take (s_take (s_take s_nil)))))))))⟩
                · rintro sh G ⟨rfl, rfl⟩
                  refine c_seq ?_
                  refine c_joinP (n := 0) (fun sh G => sh = [(82, .bool ((((((decide (z1.state = 1)) || (decide (z1.state = 2))) && ((decide (z2.state = 1)) || (decide (z2.state = 2)))) && (decide (z1.kind = z2.kind))) && (decide (z1.size = z2.size))) && (decide (z1.hash = z2.hash))))] ∧ G = []) Sel.all' .z (fun _ _ h => h) ?_ ?_
                  · skip
                    refine c_region ?_
                    refine o_T (y_move rfl) rfl ?_
                    refine o_T (y_move rfl) rfl ?_
                    refine o_split 59 rfl (fun h6 => ?_) (fun h6 => ?_)
                    · skip
                      refine o_take rfl rfl rfl ?_
                      refine o_T (y_move rfl) rfl ?_
                      refine o_T (y_pickT rfl rfl) rfl ?_
                      refine o_T (y_move rfl) rfl ?_
                      refine o_split 62 rfl (fun h7 => ?_) (fun h7 => ?_)
                      · skip
                        refine o_take rfl rfl rfl ?_
                        refine o_T (y_fa fl_120_1 rfl) rfl ?_
                        refine o_take rfl rfl rfl ?_
                        refine o_ld one_3 rfl (ms m0) (At.got (At.refl.comp Entr.a_kind)) rfl ?_
                        refine o_take rfl rfl rfl ?_
                        refine o_T (y_fa fl_120_1 rfl) rfl ?_
                        refine o_take rfl rfl rfl ?_
                        refine o_ld one_3 rfl m0 (At.got (At.refl.comp Entr.a_kind)) rfl ?_
                        refine o_take rfl rfl rfl ?_
                        refine o_T (y_eql rfl rfl) rfl ?_
                        refine o_T (y_pickT rfl rfl) rfl ?_
                        refine o_T (y_move rfl) rfl ?_
                        refine o_split 69 rfl (fun h8 => ?_) (fun h8 => ?_)
                        · skip
                          refine o_take rfl rfl rfl ?_
                          refine o_T (y_fa fl_120_2 rfl) rfl ?_
                          refine o_take rfl rfl rfl ?_
                          refine o_ld one_3 rfl (ms m0) (At.got (At.refl.comp Entr.a_size)) rfl ?_
                          refine o_take rfl rfl rfl ?_
                          refine o_T (y_fa fl_120_2 rfl) rfl ?_
                          refine o_take rfl rfl rfl ?_
                          refine o_ld one_3 rfl m0 (At.got (At.refl.comp Entr.a_size)) rfl ?_
                          refine o_take rfl rfl rfl ?_
                          refine o_T (y_eql rfl rfl) rfl ?_
                          refine o_T (y_pickT rfl rfl) rfl ?_
                          refine o_T (y_move rfl) rfl ?_
                          refine o_split 76 rfl (fun h9 => ?_) (fun h9 => ?_)
                          · skip
                            refine o_take rfl rfl rfl ?_
                            refine o_T (y_fa fl_120_4 rfl) rfl ?_
                            refine o_take rfl rfl rfl ?_
                            refine o_ld one_118 rfl (ms m0) (At.got (At.refl.comp Entr.a_hash)) rfl ?_
                            refine o_take rfl rfl rfl ?_
                            refine o_T (y_fa fl_120_4 rfl) rfl ?_
                            refine o_take rfl rfl rfl ?_
                            refine o_ld one_118 rfl m0 (At.got (At.refl.comp Entr.a_hash)) rfl ?_
                            refine o_take rfl rfl rfl ?_
                            refine o_T (y_eql rfl rfl) rfl ?_
                            refine o_T (y_pickT rfl rfl) rfl ?_
                            refine o_nil1 82 rfl rfl ?_
                            refine ⟨_, _, ⟨rfl, rfl⟩, ⟨by first | rfl | exact gtb rfl (by simp only [h6, h7, h8, h9, Bool.true_and, Bool.false_and, Bool.true_or, Bool.false_or, Bool.and_true, Bool.and_false, Bool.or_true, Bool.or_false, Bool.not_true, Bool.not_false]), trivial⟩, ⟨rfl, rfl⟩, _, (s_take (s_take (s_take (s_take (s_take (s_take (s_take (s_take (s_take s_nil)))))))))⟩
                          · skip
                            refine o_pass rfl rfl rfl rfl rfl ?_
                            refine o_pass rfl rfl rfl rfl rfl ?_
                            refine o_pass rfl rfl rfl rfl rfl ?_
                            refine o_pass rfl rfl rfl rfl rfl ?_
                            refine o_pass rfl rfl rfl rfl rfl ?_
                            refine o_T (y_pickF rfl rfl) rfl ?_
                            refine o_nil1 82 rfl rfl ?_
                            refine ⟨_, _, ⟨rfl, rfl⟩, ⟨by first | rfl | exact gtb rfl (by simp only [h6, h7, h8, h9, Bool.true_and, Bool.false_and, Bool.true_or, Bool.false_or, Bool.and_true, Bool.and_false, Bool.or_true, Bool.or_false, Bool.not_true, Bool.not_false]), trivial⟩, ⟨rfl, rfl⟩, _, (s_take (s_take (s_take (s_take (s_take (s_take (s_take (s_take (s_take s_nil)))))))))⟩
                        · skip
                          refine o_pass rfl rfl rfl rfl rfl ?_
                          refine o_pass rfl rfl rfl rfl rfl ?_
                          refine o_pass rfl rfl rfl rfl rfl ?_
                          refine o_pass rfl rfl rfl rfl rfl ?_
                          refine o_pass rfl rfl rfl rfl rfl ?_
                          refine o_T (y_pickF rfl rfl) rfl ?_
                          refine o_T (y_move rfl) rfl ?_
                          refine o_pass rfl rfl rfl rfl rfl ?_
                          refine o_pass rfl rfl rfl rfl rfl ?_
                          refine o_pass rfl rfl rfl rfl rfl ?_
                          refine o_pass rfl rfl rfl rfl rfl ?_
                          refine o_pass rfl rfl rfl rfl rfl ?_
                          refine o_T (y_pickF rfl rfl) rfl ?_
                          refine o_nil1 82 rfl rfl ?_
                          refine ⟨_, _, ⟨rfl, rfl⟩, ⟨by first | rfl | exact gtb rfl (by simp only [h6, h7, h8, Bool.true_and, Bool.false_and, Bool.true_or, Bool.false_or, Bool.and_true, Bool.and_false, Bool.or_true, Bool.or_false, Bool.not_true, Bool.not_false]), trivial⟩, ⟨rfl, rfl⟩, _, (s_take (s_take (s_take (s_take (s_take (s_take (s_take (s_take (s_take s_nil)))))))))⟩
                      · skip
                        refine o_pass rfl rfl rfl rfl rfl ?_
                        refine o_pass rfl rfl rfl rfl rfl ?_
                        refine o_pass rfl rfl rfl rfl rfl ?_
                        refine o_pass rfl rfl rfl rfl rfl ?_
                        refine o_pass rfl rfl rfl rfl rfl ?_
                        refine o_T (y_pickF rfl rfl) rfl ?_
                        refine o_T (y_move rfl) rfl ?_
                        refine o_pass rfl rfl rfl rfl rfl ?_
                        refine o_pass rfl rfl rfl rfl rfl ?_
                        refine o_pass rfl rfl rfl rfl rfl ?_
                        refine o_pass rfl rfl rfl rfl rfl ?_
                        refine o_pass rfl rfl rfl rfl rfl ?_
                        refine o_T (y_pickF rfl rfl) rfl ?_
                        refine o_T (y_move rfl) rfl ?_
                        refine o_pass rfl rfl rfl rfl rfl ?_
                        refine o_pass rfl rfl rfl rfl rfl ?_
                        refine o_pass rfl rfl rfl rfl rfl ?_
                        refine o_pass rfl rfl rfl rfl rfl ?_
                        refine o_pass rfl rfl rfl rfl rfl ?_
                        refine o_T (y_pickF rfl rfl) rfl ?_
                        refine o_nil1 82 rfl rfl ?_
                        refine ⟨_, _, ⟨rfl, rfl⟩, ⟨by first | rfl | exact gtb rfl (by simp only [h6, h7, Bool.true_and, Bool.false_and, Bool.true_or, Bool.false_or, Bool.and_true, Bool.and_false, Bool.or_true, Bool.or_false, Bool.not_true, Bool.not_false]), trivial⟩, ⟨rfl, rfl⟩, _, (s_take (s_take (s_take (s_take (s_take (s_take (s_take (s_take (s_take s_nil)))))))))⟩
                    · skip
                      refine o_pass rfl rfl rfl rfl rfl ?_
                      refine o_T (y_pickF rfl rfl) rfl ?_
                      refine o_T (y_move rfl) rfl ?_
                      refine o_pass rfl rfl rfl rfl rfl ?_
                      refine o_pass rfl rfl rfl rfl rfl ?_
                      refine o_pass rfl rfl rfl rfl rfl ?_
                      refine o_pass rfl rfl rfl rfl rfl ?_
                      refine o_pass rfl rfl rfl rfl rfl ?_
                      refine o_T (y_pickF rfl rfl) rfl ?_
                      refine o_T (y_move rfl) rfl ?_
                      refine o_pass rfl rfl rfl rfl rfl ?_
                      refine o_pass rfl rfl rfl rfl rfl ?_
                      refine o_pass rfl rfl rfl rfl rfl ?_
                      refine o_pass rfl rfl rfl rfl rfl ?_
                      refine o_pass rfl rfl rfl rfl rfl ?_
                      refine o_T (y_pickF rfl rfl) rfl ?_
                      refine o_T (y_move rfl) rfl ?_
                      refine o_pass rfl rfl rfl rfl rfl ?_
                      refine o_pass rfl rfl rfl rfl rfl ?_
                      refine o_pass rfl rfl rfl rfl rfl ?_
                      refine o_pass rfl rfl rfl rfl rfl ?_
                      refine o_pass rfl rfl rfl rfl rfl ?_
                      refine o_T (y_pickF rfl rfl) rfl ?_
                      refine o_nil1 82 rfl rfl ?_
                      refine ⟨_, _, ⟨rfl, rfl⟩, ⟨by first | rfl | exact gtb rfl (by simp only [h6, Bool.true_and, Bool.false_and, Bool.true_or, Bool.false_or, Bool.and_true, Bool.and_false, Bool.or_true, Bool.or_false, Bool.not_true, Bool.not_false]), trivial⟩, ⟨rfl, rfl⟩, _, (s_take (s_take (s_take (s_take (s_take (s_take (s_take (s_take (s_take s_nil)))))))))⟩
                  · rintro sh G ⟨rfl, rfl⟩
                    refine c_cond rfl (fun h10 => ?_) (fun h10 => ?_)
                    · have hm := cd_t h10 hm
                      refine c_seq ?_
                      refine c_region ?_
                      refine o_T (y_move rfl) rfl ?_
                      refine o_T (y_move rfl) rfl ?_
                      obtain ⟨l1, hx4, hm⟩ := bd1 hm
                      refine o_callC en_260 rfl (s_skip (s_skip (s_take (s_take (s_take (s_take (s_take (s_take s_nil)))))))) (t260 ho1 ho2 ho3 ho4 hx4) rfl (fun u1 S1 hR1 => ?_)
                      obtain ⟨v5, g5, rfl, rfl, ho5⟩ := hR1
                      refine o_rest ?_
                      refine o_L (y_assign rfl) rfl rfl ?_
                      refine o_nil0 rfl ?_
                      refine c_seq ?_
                      refine c_region ?_
                      refine o_T (y_move rfl) rfl ?_
                      refine o_T (y_move rfl) rfl ?_
                      refine o_T (y_move rfl) rfl ?_
                      obtain ⟨c6, hx5, hm⟩ := bd1 hm
                      refine o_callC en_261 rfl (s_take (s_take (s_take (s_take (s_take (s_take s_nil)))))) (t261 ho1 ho2 ho3 ho4 (ho5.rd.mono (fun _ hz => (mg hz))) hx5) rfl (fun u2 S2 hR2 => ?_)
                      obtain ⟨rfl, rfl⟩ := hR2
                      refine o_rest ?_
                      refine o_nil1 89 rfl rfl ?_
                      refine c_cond rfl (fun h11 => ?_) (fun h11 => ?_)
                      · have hm := cd_t h11 hm
                        refine c_seq ?_
                        refine c_region ?_
                        refine o_L (y_assign rfl) rfl rfl ?_
                        refine o_nil0 rfl ?_
                        refine c_ret ?_
                        obtain ⟨q1, hq1, hm⟩ := bd hm
                        have hm := fl_ret hm hF4
                        have hm := hq1.trans hm
                        obtain ⟨q2, hq2, hm⟩ := bd hm
                        have hm := fl_ret hm hF2
                        have hm := hq2.trans hm
                        obtain rfl := p1 hm
                        refine fun aX wX heX hsX => ret1 Tryz.results193 heX rfl (s_take (s_take (s_take (s_take (s_take (s_take (s_skip (s_skip (s_skip (s_take s_nil)))))))))) ?_
                        exact ⟨rfl, rfl⟩
                      · have hm := cd_f h11 hm
                        refine c_skip ?_
                        refine c_region ?_
                        refine o_T (y_move rfl) rfl ?_
                        refine o_T (y_add rfl rfl rfl) rfl ?_
                        refine o_L (y_assign rfl) rfl rfl ?_
                        refine o_nil0 rfl ?_
                        exact ⟨mm2, Nat.lt_succ_self _, _, _, ⟨_, rfl, rfl, hm⟩, ⟨rfl, trivial⟩, ⟨rfl, rfl⟩, _, (s_take (s_take (s_take (s_take (s_take (s_take (s_skip (s_skip (s_skip (s_take s_nil))))))))))⟩
                    · have hm := cd_f h10 hm
                      refine c_skip ?_
                      refine c_region ?_
                      refine o_T (y_move rfl) rfl ?_
                      refine o_T (y_add rfl rfl rfl) rfl ?_
                      refine o_L (y_assign rfl) rfl rfl ?_
                      refine o_nil0 rfl ?_
                      exact ⟨mm2, Nat.lt_succ_self _, _, _, ⟨_, rfl, rfl, hm⟩, ⟨rfl, trivial⟩, ⟨rfl, rfl⟩, _, (s_skip (s_skip (s_take (s_take (s_take (s_take (s_take (s_take (s_take s_nil)))))))))⟩
            · skip
              refine o_alloc ze_120 rfl rfl (fun b5 => ?_)
              refine o_stop (fun _ => (fun x hx => (ms hx))) ?_
              refine d_hard 12 rfl sb_193_7_17 ?_
              refine o_alloc ze_120 rfl rfl (fun b6 => ?_)
              refine o_stop (fun _ => (fun x hx => (ms (ms hx)))) ?_
              refine d_hard 14 rfl sb_193_7_18 ?_
              obtain ⟨z3, hn3, hm⟩ := nm_s hm
              refine o_stNA ag_120 rfl rfl (Entr.plain _) (Entr.len _) (Upd.refl ((Entr.len _).trans (Entr.len _).symm)) r0 (show (Entr.enc z3) = _ from by subst hn3; rfl) ?_
              refine o_stop (fun _ => (fun x hx => (ms (ms hx)))) ?_
              refine d_hard 15 rfl sb_193_7_19 ?_
              obtain ⟨z4, hn4, hm⟩ := nm_s hm
              refine o_stNA ag_120 rfl rfl (Entr.plain _) (Entr.len _) (Upd.refl ((Entr.len _).trans (Entr.len _).symm)) (rs r0) (show (Entr.enc z4) = _ from by subst hn4; rfl) ?_
              refine o_stop (fun _ => (fun x hx => (ms (ms hx)))) ?_
              refine d_nil0 sb_193_7_20 rfl ?_
              refine c_seq ?_
              refine c_joinP (n := 0) (fun sh G => sh = [(7, .bool ((decide (z3.state = 1)) || (decide (z3.state = 2))))] ∧ G = []) Sel.all' .z (fun _ _ h => h) ?_ ?_
              · skip
                refine c_region ?_
                refine o_T (y_fa fl_120_0 rfl) rfl ?_
                refine o_ld one_3 rfl m0 (At.got (At.refl.comp Entr.a_state)) rfl ?_
                refine o_T (y_eql rfl rfl) rfl ?_
                refine o_T (y_move rfl) rfl ?_
                refine o_split 45 rfl (fun h12 => ?_) (fun h12 => ?_)
                · skip
                  refine o_pass rfl rfl rfl rfl rfl ?_
                  refine o_pass rfl rfl rfl rfl rfl ?_
                  refine o_pass rfl rfl rfl rfl rfl ?_
                  refine o_T (y_pickT rfl rfl) rfl ?_
                  refine o_L (y_assign rfl) rfl rfl ?_
                  refine o_nil0 rfl ?_
                  refine ⟨_, _, ⟨rfl, rfl⟩, ⟨by first | rfl | exact gtb rfl (by simp only [h12, Bool.true_and, Bool.false_and, Bool.true_or, Bool.false_or, Bool.and_true, Bool.and_false, Bool.or_true, Bool.or_false, Bool.not_true, Bool.not_false]), trivial⟩, ⟨rfl, rfl⟩, _, (s_take (s_take (s_take (s_take (s_take (s_take (s_take (s_take (s_take s_nil)))))))))⟩
                · skip
                  refine o_take rfl rfl rfl ?_
                  refine o_T (y_fa fl_120_0 rfl) rfl ?_
                  refine o_take rfl rfl rfl ?_
                  refine o_ld one_3 rfl m0 (At.got (At.refl.comp Entr.a_state)) rfl ?_
                  refine o_take rfl rfl rfl ?_
                  refine o_T (y_eql rfl rfl) rfl ?_
                  refine o_T (y_pickF rfl rfl) rfl ?_
                  refine o_L (y_assign rfl) rfl rfl ?_
                  refine o_nil0 rfl ?_
                  refine ⟨_, _, ⟨rfl, rfl⟩, ⟨by first | rfl | exact gtb rfl (by simp only [h12, Bool.true_and, Bool.false_and, Bool.true_or, Bool.false_or, Bool.and_true, Bool.and_false, Bool.or_true, Bool.or_false, Bool.not_true, Bool.not_false]), trivial⟩, ⟨rfl, rfl⟩, _, (s_take (s_take (s_take (s_take (s_take (s_take (s_take (s_take (s_take s_nil)))))))))⟩
              · rintro sh G ⟨rfl, rfl⟩
                refine c_seq ?_
                refine c_joinP (n := 0) (fun sh G => sh = [(8, .bool ((decide (z4.state = 1)) || (decide (z4.state = 2))))] ∧ G = []) Sel.all' .z (fun _ _ h => h) ?_ ?_
                · skip
                  refine c_region ?_
                  refine o_T (y_fa fl_120_0 rfl) rfl ?_
                  refine o_ld one_3 rfl (ms m0) (At.got (At.refl.comp Entr.a_state)) rfl ?_
                  refine o_T (y_eql rfl rfl) rfl ?_
                  refine o_T (y_move rfl) rfl ?_
                  refine o_split 53 rfl (fun h13 => ?_) (fun h13 => ?_)
                  · skip
                    refine o_pass rfl rfl rfl rfl rfl ?_
                    refine o_pass rfl rfl rfl rfl rfl ?_
                    refine o_pass rfl rfl rfl rfl rfl ?_
                    refine o_T (y_pickT rfl rfl) rfl ?_
                    refine o_L (y_assign rfl) rfl rfl ?_
                    refine o_nil0 rfl ?_
                    refine ⟨_, _, ⟨rfl, rfl⟩, ⟨by first | rfl | exact gtb rfl (by simp only [h13, Bool.true_and, Bool.false_and, Bool.true_or, Bool.false_or, Bool.and_true, Bool.and_false, Bool.or_true, Bool.or_false, Bool.not_true, Bool.not_false]), trivial⟩, ⟨rfl, rfl⟩, _, (s_take (s_take (s_take (s_take (s_take (s_take (s_take (s_take (s_take s_nil)))))))))⟩
                  · skip
                    refine o_take rfl rfl rfl ?_
                    refine o_T (y_fa fl_120_0 rfl) rfl ?_
                    refine o_take rfl rfl rfl ?_
                    refine o_ld one_3 rfl (ms m0) (At.got (At.refl.comp Entr.a_state)) rfl ?_
                    refine o_take rfl rfl rfl ?_
                    refine o_T (y_eql rfl rfl) rfl ?_
                    refine o_T (y_pickF rfl rfl) rfl ?_
                    refine o_L (y_assign rfl) rfl rfl ?_
                    refine o_nil0 rfl ?_
                    refine ⟨_, _, ⟨rfl, rfl⟩, ⟨by first | rfl | exact gtb rfl (by simp only [h13, Bool.true_and, Bool.false_and, Bool.true_or, Bool.false_or, Bool.and_true, Bool.and_false, Bool.or_true, Bool.or_false, Bool.not_true, Bool.not_false]), trivial⟩, ⟨rfl, rfl⟩, _, (s_take (s_take (s_take (s_take (s_take (s_take (s_take (s_take (s_take s_nil)))))))))⟩
                · rintro sh G ⟨rfl, rfl⟩
                  refine c_seq ?_
                  refine c_joinP (n := 0) (fun sh G => sh = [(82, .bool ((((((decide (z3.state = 1)) || (decide (z3.state = 2))) && ((decide (z4.state = 1)) || (decide (z4.state = 2)))) && (decide (z3.kind = z4.kind))) && (decide (z3.size = z4.size))) && (decide (z3.hash = z4.hash))))] ∧ G = []) Sel.all' .z (fun _ _ h => h) ?_ ?_
                  · skip
                    refine c_region ?_
                    refine o_T (y_move rfl) rfl ?_
                    refine o_T (y_move rfl) rfl ?_
                    refine o_split 59 rfl (fun h14 => ?_) (fun h14 => ?_)
                    · skip
                      refine o_take rfl rfl rfl ?_
                      refine o_T (y_move rfl) rfl ?_
                      refine o_T (y_pickT rfl rfl) rfl ?_
                      refine o_T (y_move rfl) rfl ?_
                      refine o_split 62 rfl (fun h15 => ?_) (fun h15 => ?_)
                      · skip
                        refine o_take rfl rfl rfl ?_
                        refine o_T (y_fa fl_120_1 rfl) rfl ?_
                        refine o_take rfl rfl rfl ?_
                        refine o_ld one_3 rfl m0 (At.got (At.refl.comp Entr.a_kind)) rfl ?_
                        refine o_take rfl rfl rfl ?_
                        refine o_T (y_fa fl_120_1 rfl) rfl ?_
                        refine o_take rfl rfl rfl ?_
                        refine o_ld one_3 rfl (ms m0) (At.got (At.refl.comp Entr.a_kind)) rfl ?_
                        refine o_take rfl rfl rfl ?_
                        refine o_T (y_eql rfl rfl) rfl ?_
                        refine o_T (y_pickT rfl rfl) rfl ?_
                        refine o_T (y_move rfl) rfl ?_
                        refine o_split 69 rfl (fun h16 => ?_) (fun h16 => ?_)
                        · skip
                          refine o_take rfl rfl rfl ?_
                          refine o_T (y_fa fl_120_2 rfl) rfl ?_
                          refine o_take rfl rfl rfl ?_
                          refine o_ld one_3 rfl m0 (At.got (At.refl.comp Entr.a_size)) rfl ?_
                          refine o_take rfl rfl rfl ?_
                          refine o_T (y_fa fl_120_2 rfl) rfl ?_
                          refine o_take rfl rfl rfl ?_
                          refine o_ld one_3 rfl (ms m0) (At.got (At.refl.comp Entr.a_size)) rfl ?_
                          refine o_take rfl rfl rfl ?_
                          refine o_T (y_eql rfl rfl) rfl ?_
                          refine o_T (y_pickT rfl rfl) rfl ?_
                          refine o_T (y_move rfl) rfl ?_
                          refine o_split 76 rfl (fun h17 => ?_) (fun h17 => ?_)
                          · skip
                            refine o_take rfl rfl rfl ?_
                            refine o_T (y_fa fl_120_4 rfl) rfl ?_
                            refine o_take rfl rfl rfl ?_
                            refine o_ld one_118 rfl m0 (At.got (At.refl.comp Entr.a_hash)) rfl ?_
                            refine o_take rfl rfl rfl ?_
                            refine o_T (y_fa fl_120_4 rfl) rfl ?_
                            refine o_take rfl rfl rfl ?_
                            refine o_ld one_118 rfl (ms m0) (At.got (At.refl.comp Entr.a_hash)) rfl ?_
                            refine o_take rfl rfl rfl ?_
                            refine o_T (y_eql rfl rfl) rfl ?_
                            refine o_T (y_pickT rfl rfl) rfl ?_
                            refine o_nil1 82 rfl rfl ?_
                            refine ⟨_, _, ⟨rfl, rfl⟩, ⟨by first | rfl | exact gtb rfl (by simp only [h14, h15, h16, h17, Bool.true_and, Bool.false_and, Bool.true_or, Bool.false_or, Bool.and_true, Bool.and_false, Bool.or_true, Bool.or_false, Bool.not_true, Bool.not_false]), trivial⟩, ⟨rfl, rfl⟩, _, (s_take (s_take (s_take (s_take (s_take (s_take (s_take (s_take (s_take s_nil)))))))))⟩
                          · skip
                            refine o_pass rfl rfl rfl rfl rfl ?_
                            refine o_pass rfl rfl rfl rfl rfl ?_
                            refine o_pass rfl rfl rfl rfl rfl ?_
                            refine o_pass rfl rfl rfl rfl rfl ?_
                            refine o_pass rfl rfl rfl rfl rfl ?_
                            refine o_T (y_pickF rfl rfl) rfl ?_
                            refine o_nil1 82 rfl rfl ?_
                            refine ⟨_, _, ⟨rfl, rfl⟩, ⟨by first | rfl | exact gtb rfl (by simp only [h14, h15, h16, h17, Bool.true_and, Bool.false_and, Bool.true_or, Bool.false_or, Bool.and_true, Bool.and_false, Bool.or_true, Bool.or_false, Bool.not_true, Bool.not_false]), trivial⟩, ⟨rfl, rfl⟩, _, (s_take (s_take (s_take (s_take (s_take (s_take (s_take (s_take (s_take s_nil)))))))))⟩
                        · skip
                          refine o_pass rfl rfl rfl rfl rfl ?_
                          refine o_pass rfl rfl rfl rfl rfl ?_
                          refine o_pass rfl rfl rfl rfl rfl ?_
                          refine o_pass rfl rfl rfl rfl rfl ?_
                          refine o_pass rfl rfl rfl rfl rfl ?_
                          refine o_T (y_pickF rfl rfl) rfl ?_
                          refine o_T (y_move rfl) rfl ?_
                          refine o_pass rfl rfl rfl rfl rfl ?_
                          refine o_pass rfl rfl rfl rfl rfl ?_
                          refine o_pass rfl rfl rfl rfl rfl ?_
                          refine o_pass rfl rfl rfl rfl rfl ?_
                          refine o_pass rfl rfl rfl rfl rfl ?_
                          refine o_T (y_pickF rfl rfl) rfl ?_
                          refine o_nil1 82 rfl rfl ?_
                          refine ⟨_, _, ⟨rfl, rfl⟩, ⟨by first | rfl | exact gtb rfl (by simp only [h14, h15, h16, Bool.true_and, Bool.false_and, Bool.true_or, Bool.false_or, Bool.and_true, Bool.and_false, Bool.or_true, Bool.or_false, Bool.not_true, Bool.not_false]), trivial⟩, ⟨rfl, rfl⟩, _, (s_take (s_take (s_take (s_take (s_take (s_take (s_take (s_take (s_take s_nil)))))))))⟩
                      · skip
                        refine o_pass rfl rfl rfl rfl rfl ?_
                        refine o_pass rfl rfl rfl rfl rfl ?_
                        refine o_pass rfl rfl rfl rfl rfl ?_
                        refine o_pass rfl rfl rfl rfl rfl ?_
                        refine o_pass rfl rfl rfl rfl rfl ?_
                        refine o_T (y_pickF rfl rfl) rfl ?_
                        refine o_T (y_move rfl) rfl ?_
                        refine o_pass rfl rfl rfl rfl rfl ?_
                        refine o_pass rfl rfl rfl rfl rfl ?_
                        refine o_pass rfl rfl rfl rfl rfl ?_
                        refine o_pass rfl rfl rfl rfl rfl ?_
                        refine o_pass rfl rfl rfl rfl rfl ?_
                        refine o_T (y_pickF rfl rfl) rfl ?_
                        refine o_T (y_move rfl) rfl ?_
                        refine o_pass rfl rfl rfl rfl rfl ?_
                        refine o_pass rfl rfl rfl rfl rfl ?_
                        refine o_pass rfl rfl rfl rfl rfl ?_
                        refine o_pass rfl rfl rfl rfl rfl ?_
                        refine o_pass rfl rfl rfl rfl rfl ?_
                        refine o_T (y_pickF rfl rfl) rfl ?_
                        refine o_nil1 82 rfl rfl ?_
                        refine ⟨_, _, ⟨rfl, rfl⟩, ⟨by first | rfl | exact gtb rfl (by simp only [h14, h15, Bool.true_and, Bool.false_and, Bool.true_or, Bool.false_or, Bool.and_true, Bool.and_false, Bool.or_true, Bool.or_false, Bool.not_true, Bool.not_false]), trivial⟩, ⟨rfl, rfl⟩, _, (s_take (s_take (s_take (s_take (s_take (s_take (s_take (s_take (s_take s_nil)))))))))⟩
                    · skip
                      refine o_pass rfl rfl rfl rfl rfl ?_
                      refine o_T (y_pickF rfl rfl) rfl ?_
                      refine o_T (y_move rfl) rfl ?_
                      refine o_pass rfl rfl rfl rfl rfl ?_
                      refine o_pass rfl rfl rfl rfl rfl ?_
                      refine o_pass rfl rfl rfl rfl rfl ?_
                      refine o_pass rfl rfl rfl rfl rfl ?_
                      refine o_pass rfl rfl rfl rfl rfl ?_
                      refine o_T (y_pickF rfl rfl) rfl ?_
                      refine o_T (y_move rfl) rfl ?_
                      refine o_pass rfl rfl rfl rfl rfl ?_
                      refine o_pass rfl rfl rfl rfl rfl ?_
                      refine o_pass rfl rfl rfl rfl rfl ?_
                      refine o_pass rfl rfl rfl rfl rfl ?_
                      refine o_pass rfl rfl rfl rfl rfl ?_
                      refine o_T (y_pickF rfl rfl) rfl ?_
                      refine o_T (y_move rfl) rfl ?_
                      refine o_pass rfl rfl rfl rfl rfl ?_
                      refine o_pass rfl rfl rfl rfl rfl ?_
                      refine o_pass rfl rfl rfl rfl rfl ?_
                      refine o_pass rfl rfl rfl rfl rfl ?_
                      refine o_pass rfl rfl rfl rfl rfl ?_
                      refine o_T (y_pickF rfl rfl) rfl ?_
                      refine o_nil1 82 rfl rfl ?_
                      refine ⟨_, _, ⟨rfl, rfl⟩, ⟨by first | rfl | exact gtb rfl (by simp only [h14, Bool.true_and, Bool.false_and, Bool.true_or, Bool.false_or, Bool.and_true, Bool.and_false, Bool.or_true, Bool.or_false, Bool.not_true, Bool.not_false]), trivial⟩, ⟨rfl, rfl⟩, _, (s_take (s_take (s_take (s_take (s_take (s_take (s_take (s_take (s_take s_nil)))))))))⟩
                  · rintro sh G ⟨rfl, rfl⟩
                    refine c_cond rfl (fun h18 => ?_) (fun h18 => ?_)
                    · have hm := cd_t h18 hm
                      refine c_seq ?_
                      refine c_region ?_
                      refine o_T (y_move rfl) rfl ?_
                      refine o_T (y_move rfl) rfl ?_
                      obtain ⟨l2, hx6, hm⟩ := bd1 hm
                      refine o_callC en_260 rfl (s_skip (s_skip (s_take (s_take (s_take (s_take (s_take (s_take s_nil)))))))) (t260 ho1 ho2 ho3 ho4 hx6) rfl (fun u3 S3 hR3 => ?_)
                      obtain ⟨v6, g6, rfl, rfl, ho6⟩ := hR3
                      refine o_rest ?_
                      refine o_L (y_assign rfl) rfl rfl ?_
                      refine o_nil0 rfl ?_
                      refine c_seq ?_
                      refine c_region ?_
                      refine o_T (y_move rfl) rfl ?_
                      refine o_T (y_move rfl) rfl ?_
                      refine o_T (y_move rfl) rfl ?_
                      obtain ⟨c7, hx7, hm⟩ := bd1 hm
                      refine o_callC en_261 rfl (s_take (s_take (s_take (s_take (s_take (s_take s_nil)))))) (t261 ho1 ho2 ho3 ho4 (ho6.rd.mono (fun _ hz => (mg hz))) hx7) rfl (fun u4 S4 hR4 => ?_)
                      obtain ⟨rfl, rfl⟩ := hR4
                      refine o_rest ?_
                      refine o_nil1 89 rfl rfl ?_
                      refine c_cond rfl (fun h19 => ?_) (fun h19 => ?_)
                      · have hm := cd_t h19 hm
                        refine c_seq ?_
                        refine c_region ?_
                        refine o_L (y_assign rfl) rfl rfl ?_
                        refine o_nil0 rfl ?_
                        refine c_ret ?_
                        obtain ⟨q3, hq3, hm⟩ := bd hm
                        have hm := fl_ret hm hF4
                        have hm := hq3.trans hm
                        obtain ⟨q4, hq4, hm⟩ := bd hm
                        have hm := fl_ret hm hF2
                        have hm := hq4.trans hm
                        obtain rfl := p1 hm
                        refine fun aX wX heX hsX => ret1 Tryz.results193 heX rfl (s_take (s_take (s_take (s_take (s_take (s_take (s_skip (s_skip (s_skip (s_take s_nil)))))))))) ?_
                        exact ⟨rfl, rfl⟩
                      · have hm := cd_f h19 hm
                        refine c_skip ?_
                        refine c_region ?_
                        refine o_T (y_move rfl) rfl ?_
                        refine o_T (y_add rfl rfl rfl) rfl ?_
                        refine o_L (y_assign rfl) rfl rfl ?_
                        refine o_nil0 rfl ?_
                        exact ⟨mm2, Nat.lt_succ_self _, _, _, ⟨_, rfl, rfl, hm⟩, ⟨rfl, trivial⟩, ⟨rfl, rfl⟩, _, (s_take (s_take (s_take (s_take (s_take (s_take (s_skip (s_skip (s_skip (s_take s_nil))))))))))⟩
                    · have hm := cd_f h18 hm
                      refine c_skip ?_
                      refine c_region ?_
                      refine o_T (y_move rfl) rfl ?_
                      refine o_T (y_add rfl rfl rfl) rfl ?_
                      refine o_L (y_assign rfl) rfl rfl ?_
                      refine o_nil0 rfl ?_
                      exact ⟨mm2, Nat.lt_succ_self _, _, _, ⟨_, rfl, rfl, hm⟩, ⟨rfl, trivial⟩, ⟨rfl, rfl⟩, _, (s_skip (s_skip (s_take (s_take (s_take (s_take (s_take (s_take (s_take s_nil)))))))))⟩
          · have hm := cd_f h3 hm
            refine c_exit ?_
            have hm := fl_nx hm hF4
            exact ⟨_, _, ⟨_, rfl, rfl, hm⟩, ⟨rfl, trivial⟩, ⟨rfl, rfl⟩, _, (s_take (s_take (s_take (s_take (s_take (s_take (s_take s_nil)))))))⟩
      · rintro sh G ⟨c4, rfl, rfl, hm⟩
        subst hF3
        refine c_region ?_
        refine o_T (y_move rfl) rfl ?_
        refine o_T (y_add rfl rfl rfl) rfl ?_
        refine o_L (y_assign rfl) rfl rfl ?_
        refine o_nil0 rfl ?_
        exact ⟨mm1, Nat.lt_succ_self _, _, _, ⟨_, rfl, rfl, hm⟩, ⟨rfl, trivial⟩, ⟨rfl, rfl⟩, _, (s_take (s_take (s_take (s_take (s_take (s_take (s_take s_nil)))))))⟩
    · have hm := cd_f h1 hm
      refine c_exit ?_
      have hm := fl_nx hm hF2
      exact ⟨_, _, ⟨_, rfl, rfl, hm⟩, ⟨rfl, trivial⟩, ⟨rfl, rfl⟩, _, (s_take (s_take (s_take (s_take (s_take (s_take (s_take s_nil)))))))⟩
  · rintro sh G ⟨c2, rfl, rfl, hm⟩
    subst hF1
    refine c_seq ?_
    refine c_region ?_
    refine o_L (y_assign rfl) rfl rfl ?_
    refine o_nil0 rfl ?_
    refine c_ret ?_
    obtain rfl := p1 hm
    refine fun aX wX heX hsX => ret1 Tryz.results193 heX rfl (s_take (s_take (s_take (s_take (s_take (s_take (s_take s_nil))))))) ?_
    exact ⟨rfl, rfl⟩
end Go.Proofs.Qxb6500350aGreat
