/- MADE BY PROGRAM (tools350/mir.py): mirror and walk. -/
import Derived.Test.Qxb6500350aGreatF2
import Derived.Test.Qxb6500350aGreatT268
import Derived.Test.Qxb6500350aGreatT269
set_option linter.unusedVariables false
set_option linter.unusedSimpArgs false
set_option maxRecDepth 20000
set_option maxHeartbeats 4000000
namespace Go.Proofs.Qxb6500350aGreat
open Go.Eng

def op_204_11 : Array Go.Oper := #[{ dst := some 34, op := Go.Op.move (Go.Operand.tmp 6), type := 3, pos := "pool.go:93", after := #[], guard := none }, { dst := some 35, op := Go.Op.move (Go.Operand.tmp 0), type := 31, pos := "pool.go:93", after := #[{ on := 9, ground := Go.Ground.gcOnly Go.Departure.lateStores }], guard := none }, { dst := some 36, op := Go.Op.move (Go.Operand.tmp 6), type := 3, pos := "pool.go:93", after := #[{ on := 9, ground := Go.Ground.gcOnly Go.Departure.lateStores }], guard := none }, { dst := some 37, op := Go.Op.nilCheck (Go.Operand.tmp 35), type := 0, pos := "pool.go:93", after := #[{ on := 1, ground := Go.Ground.data }, { on := 9, ground := Go.Ground.gcOnly Go.Departure.lateStores }], guard := none }, { dst := some 38, op := Go.Op.fieldAddr 184 (Go.Operand.tmp 37) 0, type := 0, pos := "pool.go:93", after := #[{ on := 3, ground := Go.Ground.data }, { on := 9, ground := Go.Ground.gcOnly Go.Departure.lateStores }], guard := none }, { dst := some 39, op := Go.Op.indexAddr 182 (Go.Operand.tmp 38) (Go.Operand.tmp 36), type := 0, pos := "pool.go:93", after := #[{ on := 4, ground := Go.Ground.data }, { on := 2, ground := Go.Ground.data }, { on := 9, ground := Go.Ground.gcOnly Go.Departure.lateStores }], guard := none }, { dst := some 40, op := Go.Op.fieldAddr 181 (Go.Operand.tmp 39) 3, type := 0, pos := "pool.go:93", after := #[{ on := 5, ground := Go.Ground.data }, { on := 9, ground := Go.Ground.gcOnly Go.Departure.lateStores }], guard := none }, { dst := some 41, op := Go.Op.load 4 (Go.Operand.tmp 40), type := 4, pos := "pool.go:93", after := #[{ on := 6, ground := Go.Ground.data }, { on := 9, ground := Go.Ground.gcOnly Go.Departure.lateStores }], guard := none }, { dst := some 42, op := Go.Op.unOp Go.UnOp.not 4 (Go.Operand.tmp 41), type := 4, pos := "pool.go:93", after := #[{ on := 7, ground := Go.Ground.data }, { on := 9, ground := Go.Ground.gcOnly Go.Departure.lateStores }], guard := none }, { dst := some 4, op := Go.Op.assign (Go.Operand.tmp 34), type := 3, pos := "pool.go:93", after := #[{ on := 0, ground := Go.Ground.data }, { on := 0, ground := Go.Ground.phase }, { on := 1, ground := Go.Ground.textOnly Go.Departure.lateStores }, { on := 2, ground := Go.Ground.textOnly Go.Departure.lateStores }, { on := 3, ground := Go.Ground.textOnly Go.Departure.lateStores }, { on := 4, ground := Go.Ground.textOnly Go.Departure.lateStores }, { on := 5, ground := Go.Ground.textOnly Go.Departure.lateStores }, { on := 6, ground := Go.Ground.textOnly Go.Departure.lateStores }, { on := 7, ground := Go.Ground.textOnly Go.Departure.lateStores }, { on := 8, ground := Go.Ground.textOnly Go.Departure.lateStores }], guard := none }, { dst := some 5, op := Go.Op.assign (Go.Operand.tmp 42), type := 4, pos := "pool.go:93", after := #[{ on := 8, ground := Go.Ground.data }, { on := 9, ground := Go.Ground.chain }, { on := 0, ground := Go.Ground.phase }, { on := 1, ground := Go.Ground.phase }, { on := 2, ground := Go.Ground.phase }, { on := 3, ground := Go.Ground.phase }, { on := 4, ground := Go.Ground.phase }, { on := 5, ground := Go.Ground.phase }, { on := 6, ground := Go.Ground.phase }, { on := 7, ground := Go.Ground.phase }, { on := 8, ground := Go.Ground.phase }, { on := 9, ground := Go.Ground.phase }], guard := none }]
theorem sb_204_11_0 : softB op_204_11 #[true, true, true, true, true, true, true, true, true, true, true] (Array.replicate 11 false) 0 = true := by kernel_rfl
theorem sb_204_11_1 : softB op_204_11 #[true, true, true, true, true, true, true, true, true, true, true] ((Array.replicate 11 false).setIfInBounds 0 true) 1 = true := by kernel_rfl
theorem sb_204_11_2 : softB op_204_11 #[true, true, true, true, true, true, true, true, true, true, true] (((Array.replicate 11 false).setIfInBounds 0 true).setIfInBounds 1 true) 2 = true := by kernel_rfl
theorem sb_204_11_3 : softB op_204_11 #[true, true, true, true, true, true, true, true, true, true, true] ((((Array.replicate 11 false).setIfInBounds 0 true).setIfInBounds 1 true).setIfInBounds 2 true) 3 = true := by kernel_rfl
theorem sb_204_11_4 : softB op_204_11 #[true, true, true, true, true, true, true, true, true, true, true] (((((Array.replicate 11 false).setIfInBounds 0 true).setIfInBounds 1 true).setIfInBounds 2 true).setIfInBounds 3 true) 4 = true := by kernel_rfl
theorem sb_204_11_5 : softB op_204_11 #[true, true, true, true, true, true, true, true, true, true, true] ((((((Array.replicate 11 false).setIfInBounds 0 true).setIfInBounds 1 true).setIfInBounds 2 true).setIfInBounds 3 true).setIfInBounds 4 true) 5 = true := by kernel_rfl
theorem sb_204_11_6 : softB op_204_11 #[true, true, true, true, true, true, true, true, true, true, true] (((((((Array.replicate 11 false).setIfInBounds 0 true).setIfInBounds 1 true).setIfInBounds 2 true).setIfInBounds 3 true).setIfInBounds 4 true).setIfInBounds 5 true) 6 = true := by kernel_rfl
theorem sb_204_11_7 : softB op_204_11 #[true, true, true, true, true, true, true, true, true, true, true] ((((((((Array.replicate 11 false).setIfInBounds 0 true).setIfInBounds 1 true).setIfInBounds 2 true).setIfInBounds 3 true).setIfInBounds 4 true).setIfInBounds 5 true).setIfInBounds 6 true) 7 = true := by kernel_rfl
theorem sb_204_11_8 : softB op_204_11 #[true, true, true, true, true, true, true, true, true, true, true] (((((((((Array.replicate 11 false).setIfInBounds 0 true).setIfInBounds 1 true).setIfInBounds 2 true).setIfInBounds 3 true).setIfInBounds 4 true).setIfInBounds 5 true).setIfInBounds 6 true).setIfInBounds 7 true) 8 = true := by kernel_rfl
theorem sb_204_11_9 : softB op_204_11 #[true, true, true, true, true, true, true, true, true, true, true] ((((((((((Array.replicate 11 false).setIfInBounds 0 true).setIfInBounds 1 true).setIfInBounds 2 true).setIfInBounds 3 true).setIfInBounds 4 true).setIfInBounds 5 true).setIfInBounds 6 true).setIfInBounds 7 true).setIfInBounds 8 true) 9 = true := by kernel_rfl
theorem sb_204_11_10 : softB op_204_11 #[true, true, true, true, true, true, true, true, true, true, true] (((((((((((Array.replicate 11 false).setIfInBounds 0 true).setIfInBounds 1 true).setIfInBounds 2 true).setIfInBounds 3 true).setIfInBounds 4 true).setIfInBounds 5 true).setIfInBounds 6 true).setIfInBounds 7 true).setIfInBounds 8 true).setIfInBounds 9 true) 10 = true := by kernel_rfl
theorem sb_204_11_11 : hardB op_204_11 ((((((((((((Array.replicate 11 false).setIfInBounds 0 true).setIfInBounds 1 true).setIfInBounds 2 true).setIfInBounds 3 true).setIfInBounds 4 true).setIfInBounds 5 true).setIfInBounds 6 true).setIfInBounds 7 true).setIfInBounds 8 true).setIfInBounds 9 true).setIfInBounds 10 true) [] = true := by kernel_rfl
/- (*index.Index).probe -/
def m204_w1 (n : Nat) (x : Index) (path : Str) (mm : Nat) : Int → Int → Option (Flow (Int × Bool) (Int × Int)) := it2 (fun lp1 c1 c2 =>
cond (decide (c2 < (path.length : Int))) (
Option.bind (ckA c1 49) fun _ =>
cond ((x.pool c1).file) (
Option.bind (some (0, true)) fun q1 => some (.ret q1)) (
ob1 (m268 n path c2) fun c5 =>
Option.bind (sSl path c2 c5) fun s1 =>
ob1 (m269 n x c1 s1) fun c6 =>
cond (decide (c6 = 0)) (
Option.bind (some (0, false)) fun q2 => some (.ret q2)) (
lp1 c6 (wi (c5 + 1))))) (
some (.nx (c1, c2)))) mm
def m204 (n : Nat) (x : Index) (path : Str) : Option (Int × Bool) :=
flow (m204_w1 n x path n 0 0) some (un2 fun c3 c4 =>
Option.bind (ckA c3 49) fun _ =>
some (c3, (!(x.pool c3).file)))
theorem t204 {n : Nat} {C : List Chunk} {rc1 : Int} {rc2 : Bool} {b1 : Nat} {x : Index} {path : Str}   (hm : m204 n x path = some (rc1, rc2)) : Trip Tryz.prog 204 #[.pointer (some ⟨b1, 0, none⟩), .string ⟨(path : Str).toArray⟩] ([[(b1, .cells (Index.enc x).toArray 184 (0, 0))]] ++ [C]) (fun u S' => .tuple #[.int .i64 rc1, .bool rc2] = u ∧ S' = [[(b1, .cells (Index.enc x).toArray 184 (0, 0))]] ++ [C]) := by
  refine fn_entry (args := [.pointer (some ⟨b1, 0, none⟩), .string ⟨(path : Str).toArray⟩]) Tryz.func204 rfl Tryz.ntmps204 rfl (fun w0 => ?_)
  refine c_seq ?_
  refine c_region ?_
  refine o_L (y_assign rfl) rfl rfl ?_
  refine o_L (y_assign rfl) rfl rfl ?_
  refine o_nil0 rfl ?_
  refine c_seq ?_
  refine c_region ?_
  refine o_L (y_assign rfl) rfl rfl ?_
  refine o_nil0 rfl ?_
  refine c_seq ?_
  refine c_seq ?_
  refine c_region ?_
  refine o_L (y_assign rfl) rfl rfl ?_
  refine o_nil0 rfl ?_
  obtain ⟨f1, F1, hF1, hj1, hF2⟩ := fl2 hm
  refine c_joinP (n := 0) (fun sh G => ∃ (c3 : Int), ∃ (c4 : Int), sh = [(6, .int .i64 c3), (7, .int .i64 c4)] ∧ G = [] ∧ F1 (c3, c4) = some (rc1, rc2)) (s_take (s_take s_nil)) .z (fun _ _ h => h) ?_ ?_
  · skip
    refine c_block ?_
    refine c_loopP (n := 0) (fun mm sh G => ∃ (c1 : Int), ∃ (c2 : Int), sh = [(6, .int .i64 c1), (7, .int .i64 c2)] ∧ G = [] ∧ m204_w1 n x path mm c1 c2 = some f1) n (s_take (s_take s_nil)) .z ⟨_, _, ⟨_, _, rfl, rfl, hj1⟩, ⟨rfl, rfl, trivial⟩, _, (s_take (s_take s_nil))⟩ ?_
    rintro mm sh G ⟨c1, c2, rfl, rfl, hm⟩
    obtain ⟨mm1, rfl, hm⟩ := it2_s hm
    refine c_seq ?_
    refine c_seq ?_
    refine c_region ?_
    refine o_T (y_move rfl) rfl ?_
    refine o_T (y_move rfl) rfl ?_
    refine o_T (y_slen Tryz.underlying9 rfl) rfl ?_
    refine o_T (y_lss rfl rfl) rfl ?_
    refine o_nil1 12 rfl rfl ?_
    refine c_cond rfl (fun h1 => ?_) (fun h1 => ?_)
    · have hm := cd_t h1 hm
      refine c_skip ?_
      refine c_block ?_
      refine c_seq ?_
      refine c_seq ?_
      refine c_region ?_
      refine o_T (y_move rfl) rfl ?_
      refine o_T (y_move rfl) rfl ?_
      refine o_T (y_nilck rfl) rfl ?_
      refine o_T (y_fa fl_184_0 rfl) rfl ?_
      obtain ⟨_, hx1, hm⟩ := bd hm
      have hx1 := ckA_some hx1
      refine o_T (y_ia ar_182 rfl rfl hx1.1 hx1.2) rfl ?_
      refine o_T (y_fa fl_181_3 rfl) rfl ?_
      refine o_ld one_4 rfl m0 (At.got (((At.refl.comp Index.a_pool).comp (encN_a Nod.len _ _ hx1.1 _ hx1.2)).comp Nod.a_file)) rfl ?_
      refine o_nil1 19 rfl rfl ?_
      refine c_cond rfl (fun h2 => ?_) (fun h2 => ?_)
      · have hm := cd_t h2 hm
        refine c_seq ?_
        refine c_region ?_
        refine o_L (y_assign rfl) rfl rfl ?_
        refine o_L (y_assign rfl) rfl rfl ?_
        refine o_nil0 rfl ?_
        refine c_ret ?_
        obtain ⟨q1, hq1, hm⟩ := bd hm
        have hm := fl_ret hm hF2
        have hm := hq1.trans hm
        obtain ⟨rfl, rfl⟩ := pr2 hm
        refine fun aX wX heX hsX => ret2 Tryz.results204 heX rfl rfl (s_take (s_take s_nil)) ?_
        exact ⟨rfl, rfl⟩
      · have hm := cd_f h2 hm
        refine c_skip ?_
        refine c_seq ?_
        refine c_region ?_
        refine o_T (y_move rfl) rfl ?_
        refine o_T (y_move rfl) rfl ?_
        obtain ⟨c5, hx2, hm⟩ := bd1 hm
        refine o_callC en_268 rfl s_nil (t268 hx2) rfl (fun u1 S1 hR1 => ?_)
        obtain ⟨rfl, rfl⟩ := hR1
        refine o_rest ?_
        refine o_L (y_assign rfl) rfl rfl ?_
        refine o_nil0 rfl ?_
        refine c_seq ?_
        refine c_region ?_
        refine o_T (y_move rfl) rfl ?_
        refine o_T (y_move rfl) rfl ?_
        refine o_T (y_move rfl) rfl ?_
        refine o_T (y_move rfl) rfl ?_
        refine o_T (y_move rfl) rfl ?_
        obtain ⟨s1, hx3, hm⟩ := bd hm
        refine o_T (y_ssl Tryz.underlying9 rfl (biS rfl) (biS rfl) hx3) rfl ?_
        obtain ⟨c6, hx4, hm⟩ := bd1 hm
        refine o_callC en_269 rfl (s_take s_nil) (t269 hx4) rfl (fun u2 S2 hR2 => ?_)
        obtain ⟨rfl, rfl⟩ := hR2
        refine o_rest ?_
        refine o_L (y_assign rfl) rfl rfl ?_
        refine o_nil0 rfl ?_
        refine c_seq ?_
        refine c_seq ?_
        refine c_region ?_
        refine o_T (y_move rfl) rfl ?_
        refine o_T (y_eql rfl rfl) rfl ?_
        refine o_nil1 31 rfl rfl ?_
        refine c_cond rfl (fun h3 => ?_) (fun h3 => ?_)
        · have hm := cd_t h3 hm
          refine c_seq ?_
          refine c_region ?_
          refine o_L (y_assign rfl) rfl rfl ?_
          refine o_L (y_assign rfl) rfl rfl ?_
          refine o_nil0 rfl ?_
          refine c_ret ?_
          obtain ⟨q2, hq2, hm⟩ := bd hm
          have hm := fl_ret hm hF2
          have hm := hq2.trans hm
          obtain ⟨rfl, rfl⟩ := pr2 hm
          refine fun aX wX heX hsX => ret2 Tryz.results204 heX rfl rfl (s_take (s_take s_nil)) ?_
          exact ⟨rfl, rfl⟩
        · have hm := cd_f h3 hm
          refine c_skip ?_
          refine c_region ?_
          refine o_T (y_move rfl) rfl ?_
          refine o_T (y_add rfl rfl rfl) rfl ?_
          refine o_L (y_assign rfl) rfl rfl ?_
          refine o_nil0 rfl ?_
          exact ⟨mm1, Nat.lt_succ_self _, _, _, ⟨_, _, rfl, rfl, hm⟩, ⟨rfl, rfl, trivial⟩, ⟨rfl, rfl⟩, _, (s_take (s_take s_nil))⟩
    · have hm := cd_f h1 hm
      refine c_exit ?_
      have hm := fl_nx hm hF2
      exact ⟨_, _, ⟨_, _, rfl, rfl, hm⟩, ⟨rfl, rfl, trivial⟩, ⟨rfl, rfl⟩, _, (s_take (s_take s_nil))⟩
  · rintro sh G ⟨c3, c4, rfl, rfl, hm⟩
    subst hF1
    refine c_seq ?_
    refine c_draw #[true, true, true, true, true, true, true, true, true, true, true] rfl (n := 11) rfl ?_
    refine d_T 0 rfl sb_204_11_0 rfl (y_move rfl) rfl ?_
    refine d_T 1 rfl sb_204_11_1 rfl (y_move rfl) rfl ?_
    refine d_T 2 rfl sb_204_11_2 rfl (y_move rfl) rfl ?_
    refine d_T 3 rfl sb_204_11_3 rfl (y_nilck rfl) rfl ?_
    refine d_T 4 rfl sb_204_11_4 rfl (y_fa fl_184_0 rfl) rfl ?_
    obtain ⟨_, hx5, hm⟩ := bd hm
    have hx5 := ckA_some hx5
    refine d_T 5 rfl sb_204_11_5 rfl (y_ia ar_182 rfl rfl hx5.1 hx5.2) rfl ?_
    refine d_T 6 rfl sb_204_11_6 rfl (y_fa fl_181_3 rfl) rfl ?_
    refine d_ld 7 rfl sb_204_11_7 one_4 rfl (fun x hx => hx) m0 (At.got (((At.refl.comp Index.a_pool).comp (encN_a Nod.len _ _ hx5.1 _ hx5.2)).comp Nod.a_file)) rfl ?_
    refine d_T 8 rfl sb_204_11_8 rfl (y_not rfl) rfl ?_
    refine d_L 9 rfl sb_204_11_9 rfl (y_assign rfl) rfl rfl ?_
    refine d_L 10 rfl sb_204_11_10 rfl (y_assign rfl) rfl rfl ?_
    refine d_nil0 sb_204_11_11 rfl ?_
    refine c_ret ?_
    obtain ⟨rfl, rfl⟩ := pr2 hm
    refine fun aX wX heX hsX => ret2 Tryz.results204 heX rfl rfl (s_take (s_take s_nil)) ?_
    exact ⟨rfl, rfl⟩
end Go.Proofs.Qxb6500350aGreat
