/- MADE BY PROGRAM (tools350/mir.py): mirror and walk. -/
import Derived.Test.Qxb6500350aGreatF2
import Derived.Test.Qxb6500350aGreatT244
import Derived.Test.Qxb6500350aGreatT261
set_option linter.unusedVariables false
set_option linter.unusedSimpArgs false
set_option maxRecDepth 20000
set_option maxHeartbeats 4000000
namespace Go.Proofs.Qxb6500350aGreat
open Go.Eng

def op_298_1 : Array Go.Oper := #[{ dst := some 12, op := Go.Op.move (Go.Operand.tmp 0), type := 28, pos := "table.go:45", after := #[], guard := none }, { dst := some 13, op := Go.Op.move (Go.Operand.tmp 3), type := 118, pos := "table.go:45", after := #[], guard := none }, { dst := some 14, op := Go.Op.call { callee := Go.Callee.value (Go.Operand.func 244), args := #[Go.Operand.tmp 13], argTypes := #[118] }, type := 3, pos := "table.go:45", after := #[{ on := 1, ground := Go.Ground.data }], guard := none }, { dst := some 15, op := Go.Op.nilCheck (Go.Operand.tmp 12), type := 0, pos := "table.go:45", after := #[{ on := 0, ground := Go.Ground.data }], guard := none }, { dst := some 16, op := Go.Op.fieldAddr 126 (Go.Operand.tmp 15) 2, type := 0, pos := "table.go:45", after := #[{ on := 3, ground := Go.Ground.data }], guard := none }, { dst := some 17, op := Go.Op.indexAddr 122 (Go.Operand.tmp 16) (Go.Operand.tmp 14), type := 0, pos := "table.go:45", after := #[{ on := 4, ground := Go.Ground.data }, { on := 2, ground := Go.Ground.data }], guard := none }, { dst := some 18, op := Go.Op.load 3 (Go.Operand.tmp 17), type := 3, pos := "table.go:45", after := #[{ on := 5, ground := Go.Ground.data }], guard := none }, { dst := some 9, op := Go.Op.assign (Go.Operand.tmp 18), type := 3, pos := "table.go:45", after := #[{ on := 6, ground := Go.Ground.data }, { on := 2, ground := Go.Ground.chain }, { on := 0, ground := Go.Ground.phase }, { on := 1, ground := Go.Ground.phase }, { on := 2, ground := Go.Ground.phase }, { on := 3, ground := Go.Ground.phase }, { on := 4, ground := Go.Ground.phase }, { on := 5, ground := Go.Ground.phase }, { on := 6, ground := Go.Ground.phase }], guard := none }]
theorem sb_298_1_0 : softB op_298_1 #[true, true, false, true, true, true, true, true] (Array.replicate 8 false) 0 = true := by kernel_rfl
theorem sb_298_1_1 : softB op_298_1 #[true, true, false, true, true, true, true, true] ((Array.replicate 8 false).setIfInBounds 0 true) 1 = true := by kernel_rfl
theorem sb_298_1_2 : softB op_298_1 #[true, true, false, true, true, true, true, true] (((Array.replicate 8 false).setIfInBounds 0 true).setIfInBounds 1 true) 3 = true := by kernel_rfl
theorem sb_298_1_3 : softB op_298_1 #[true, true, false, true, true, true, true, true] ((((Array.replicate 8 false).setIfInBounds 0 true).setIfInBounds 1 true).setIfInBounds 3 true) 4 = true := by kernel_rfl
theorem sb_298_1_4 : hardB op_298_1 (((((Array.replicate 8 false).setIfInBounds 0 true).setIfInBounds 1 true).setIfInBounds 3 true).setIfInBounds 4 true) [2] = true := by kernel_rfl
theorem sb_298_1_5 : softB op_298_1 #[true, true, false, true, true, true, true, true] ((((((Array.replicate 8 false).setIfInBounds 0 true).setIfInBounds 1 true).setIfInBounds 3 true).setIfInBounds 4 true).setIfInBounds 2 true) 5 = true := by kernel_rfl
theorem sb_298_1_6 : softB op_298_1 #[true, true, false, true, true, true, true, true] (((((((Array.replicate 8 false).setIfInBounds 0 true).setIfInBounds 1 true).setIfInBounds 3 true).setIfInBounds 4 true).setIfInBounds 2 true).setIfInBounds 5 true) 6 = true := by kernel_rfl
theorem sb_298_1_7 : softB op_298_1 #[true, true, false, true, true, true, true, true] ((((((((Array.replicate 8 false).setIfInBounds 0 true).setIfInBounds 1 true).setIfInBounds 3 true).setIfInBounds 4 true).setIfInBounds 2 true).setIfInBounds 5 true).setIfInBounds 6 true) 7 = true := by kernel_rfl
theorem sb_298_1_8 : hardB op_298_1 (((((((((Array.replicate 8 false).setIfInBounds 0 true).setIfInBounds 1 true).setIfInBounds 3 true).setIfInBounds 4 true).setIfInBounds 2 true).setIfInBounds 5 true).setIfInBounds 6 true).setIfInBounds 7 true) [] = true := by kernel_rfl
/- (*objects.Store).find -/
def m298_w1 (n : Nat) (s : Store) (d : Dev) (kind : Int) (data : (List UInt8)) (h_ : Int) (mm : Nat) : Int → Int → Option (Flow (Int) (Int × Int)) := it2 (fun lp1 c2 c3 =>
cond ((decide (c3 < 48)) && (decide (¬ (c2 = 0)))) (
Option.bind (ckA c2 49) fun _ =>
nm ((s.tab c2) : Entr) fun z1 =>
cond (((decide (z1.kind = kind)) && (decide (z1.size = (data.length : Int)))) && (decide (z1.hash = h_))) (
ob1 (m261 n s d c2 data) fun c6 =>
cond c6 (
Option.bind (some c2) fun q1 => some (.ret q1)) (
lp1 z1.nxt (wi (c3 + 1)))) (
lp1 z1.nxt (wi (c3 + 1)))) (
some (.nx (c2, c3)))) mm
def m298 (n : Nat) (s : Store) (d : Dev) (kind : Int) (data : (List UInt8)) (h_ : Int) : Option (Int) :=
ob1 (m244 n h_) fun c1 =>
Option.bind (ckA c1 8) fun _ =>
flow (m298_w1 n s d kind data h_ n (s.heads c1) 0) some (un2 fun c4 c5 =>
some 0)
theorem t298 {n : Nat} {C : List Chunk} {rc1 : Int} {b1 : Nat} {s : Store} {b2 : Nat} {d : Dev} {v1 : Value} {g1 : List Chunk} {v2 : Value} {g2 : List Chunk} {v3 : Value} {g3 : List Chunk} {v4 : Value} {g4 : List Chunk} {kind : Int} {v5 : Value} {data : (List UInt8)} {h_ : Int} (ho1 : Own rByte v1 d.blk g1) (ho2 : Own rByte v2 d.base g2) (ho3 : Own rInt v3 d.at_ g3) (ho4 : Own rByte v4 d.data g4) (hr1 : Rd rByte C v5 data)  (hm : m298 n s d kind data h_ = some rc1) : Trip Tryz.prog 298 #[.pointer (some ⟨b1, 0, none⟩), .int .i64 kind, v5, .int .u32 h_] ([[(b1, .cells (Store.enc (.pointer (some ⟨b2, 0, none⟩)) s).toArray 126 (0, 0))], [(b2, .cells (Dev.enc (v1) (v2) (v3) (v4) d).toArray 85 (0, 0))], g1, g2, g3, g4] ++ [C]) (fun u S' => .int .i64 rc1 = u ∧ S' = [[(b1, .cells (Store.enc (.pointer (some ⟨b2, 0, none⟩)) s).toArray 126 (0, 0))], [(b2, .cells (Dev.enc (v1) (v2) (v3) (v4) d).toArray 85 (0, 0))], g1, g2, g3, g4] ++ [C]) := by
  refine fn_entry (args := [.pointer (some ⟨b1, 0, none⟩), .int .i64 kind, v5, .int .u32 h_]) Tryz.func298 rfl Tryz.ntmps298 rfl (fun w0 => ?_)
  refine c_seq ?_
  refine c_region ?_
  refine o_L (y_assign rfl) rfl rfl ?_
  refine o_nil0 rfl ?_
  refine c_seq ?_
  refine c_draw #[true, true, false, true, true, true, true, true] rfl (n := 8) rfl ?_
  refine d_T 0 rfl sb_298_1_0 rfl (y_move rfl) rfl ?_
  refine d_T 1 rfl sb_298_1_1 rfl (y_move rfl) rfl ?_
  refine d_T 3 rfl sb_298_1_2 rfl (y_nilck rfl) rfl ?_
  refine d_T 4 rfl sb_298_1_3 rfl (y_fa fl_126_2 rfl) rfl ?_
  refine d_hard 2 rfl sb_298_1_4 ?_
  obtain ⟨c1, hx1, hm⟩ := bd1 hm
  refine o_callC en_244 rfl s_nil (t244 hx1) rfl (fun u1 S1 hR1 => ?_)
  obtain ⟨rfl, rfl⟩ := hR1
  refine o_rest ?_
  refine o_stop (fun h => nomatch h) ?_
  obtain ⟨_, hx2, hm⟩ := bd hm
  have hx2 := ckA_some hx2
  refine d_T 5 rfl sb_298_1_5 rfl (y_ia ar_122 rfl rfl hx2.1 hx2.2) rfl ?_
  refine d_ld 6 rfl sb_298_1_6 one_3 rfl (fun x hx => hx) m0 (At.got ((At.refl.comp Store.a_heads).comp (encN_a encI_len _ _ hx2.1 _ hx2.2))) rfl ?_
  refine d_L 7 rfl sb_298_1_7 rfl (y_assign rfl) rfl rfl ?_
  refine d_nil0 sb_298_1_8 rfl ?_
  refine c_seq ?_
  refine c_seq ?_
  refine c_region ?_
  refine o_L (y_assign rfl) rfl rfl ?_
  refine o_nil0 rfl ?_
  obtain ⟨f1, F1, hF1, hj1, hF2⟩ := fl2 hm
  refine c_joinP (n := 0) (fun sh G => ∃ (c4 : Int), ∃ (c5 : Int), sh = [(9, .int .i64 c4), (10, .int .i64 c5)] ∧ G = [] ∧ F1 (c4, c5) = some rc1) (s_take (s_take (s_take (s_take (s_take (s_take (s_take s_nil))))))) .z (fun _ _ h => h) ?_ ?_
  · skip
    refine c_block ?_
    refine c_loopP (n := 0) (fun mm sh G => ∃ (c2 : Int), ∃ (c3 : Int), sh = [(9, .int .i64 c2), (10, .int .i64 c3)] ∧ G = [] ∧ m298_w1 n s d kind data h_ mm c2 c3 = some f1) n (s_take (s_take (s_take (s_take (s_take (s_take (s_take s_nil))))))) .z ⟨_, _, ⟨_, _, rfl, rfl, hj1⟩, ⟨rfl, rfl, trivial⟩, _, (s_take (s_take (s_take (s_take (s_take (s_take (s_take s_nil)))))))⟩ ?_
    rintro mm sh G ⟨c2, c3, rfl, rfl, hm⟩
    obtain ⟨mm1, rfl, hm⟩ := it2_s hm
    refine c_seq ?_
    refine c_seq ?_
    refine c_joinP (n := 0) (fun sh G => sh = [(24, .bool ((decide (c3 < 48)) && (decide (¬ (c2 = 0)))))] ∧ G = []) Sel.all' .z (fun _ _ h => h) ?_ ?_
    · skip
      refine c_region ?_
      refine o_T (y_move rfl) rfl ?_
      refine o_T (y_lss rfl rfl) rfl ?_
      refine o_T (y_move rfl) rfl ?_
      refine o_split 21 rfl (fun h1 => ?_) (fun h1 => ?_)
      · skip
        refine o_take rfl rfl rfl ?_
        refine o_T (y_move rfl) rfl ?_
        refine o_take rfl rfl rfl ?_
        refine o_T (y_neq rfl rfl) rfl ?_
        refine o_T (y_pickT rfl rfl) rfl ?_
        refine o_nil1 24 rfl rfl ?_
        refine ⟨_, _, ⟨rfl, rfl⟩, ⟨by first | rfl | exact gtb rfl (by simp only [h1, Bool.true_and, Bool.false_and, Bool.true_or, Bool.false_or, Bool.and_true, Bool.and_false, Bool.or_true, Bool.or_false, Bool.not_true, Bool.not_false]), trivial⟩, ⟨rfl, rfl⟩, _, (s_take (s_take (s_take (s_take (s_take (s_take (s_take s_nil)))))))⟩
      · skip
        refine o_pass rfl rfl rfl rfl rfl ?_
        refine o_pass rfl rfl rfl rfl rfl ?_
        refine o_T (y_pickF rfl rfl) rfl ?_
        refine o_nil1 24 rfl rfl ?_
        refine ⟨_, _, ⟨rfl, rfl⟩, ⟨by first | rfl | exact gtb rfl (by simp only [h1, Bool.true_and, Bool.false_and, Bool.true_or, Bool.false_or, Bool.and_true, Bool.and_false, Bool.or_true, Bool.or_false, Bool.not_true, Bool.not_false]), trivial⟩, ⟨rfl, rfl⟩, _, (s_take (s_take (s_take (s_take (s_take (s_take (s_take s_nil)))))))⟩
    · rintro sh G ⟨rfl, rfl⟩
      refine c_cond rfl (fun h2 => ?_) (fun h2 => ?_)
      · have hm := cd_t h2 hm
        refine c_skip ?_
        refine c_seq ?_
        refine c_block ?_
        refine c_seq ?_
        refine c_region ?_
        refine o_T (y_move rfl) rfl ?_
        refine o_T (y_move rfl) rfl ?_
        refine o_T (y_nilck rfl) rfl ?_
        refine o_T (y_fa fl_126_1 rfl) rfl ?_
        obtain ⟨_, hx3, hm⟩ := bd hm
        have hx3 := ckA_some hx3
        refine o_T (y_ia ar_121 rfl rfl hx3.1 hx3.2) rfl ?_
        refine o_lda ag_120 rfl m0 (At.exs ((At.refl.comp Store.a_tab).comp (encN_a Entr.len _ _ hx3.1 _ hx3.2)) (Entr.len _)) (At.fits ((At.refl.comp Store.a_tab).comp (encN_a Entr.len _ _ hx3.1 _ hx3.2)) (Entr.len _)) rfl ?_
        refine o_alloc ze_120 rfl rfl (fun b3 => ?_)
        obtain ⟨z1, hn1, hm⟩ := nm_s hm
        refine o_stNA ag_120 rfl rfl (Entr.plain _) (Entr.len _) (Upd.refl ((Entr.len _).trans (Entr.len _).symm)) r0 (show (Entr.enc z1) = _ from by subst hn1; rfl) ?_
        refine o_nil0 rfl ?_
        refine c_seq ?_
        refine c_seq ?_
        refine c_joinP (n := 0) (fun sh G => sh = [(49, .bool (((decide (z1.kind = kind)) && (decide (z1.size = (data.length : Int)))) && (decide (z1.hash = h_))))] ∧ G = []) Sel.all' .z (fun _ _ h => h) ?_ ?_
        · skip
          refine c_region ?_
          refine o_T (y_fa fl_120_1 rfl) rfl ?_
          refine o_ld one_3 rfl m0 (At.got (At.refl.comp Entr.a_kind)) rfl ?_
          refine o_T (y_move rfl) rfl ?_
          refine o_T (y_eql rfl rfl) rfl ?_
          refine o_T (y_move rfl) rfl ?_
          refine o_split 37 rfl (fun h3 => ?_) (fun h3 => ?_)
          · skip
            refine o_take rfl rfl rfl ?_
            refine o_T (y_fa fl_120_2 rfl) rfl ?_
            refine o_take rfl rfl rfl ?_
            refine o_ld one_3 rfl m0 (At.got (At.refl.comp Entr.a_size)) rfl ?_
            refine o_take rfl rfl rfl ?_
            refine o_T (y_move rfl) rfl ?_
            refine o_take rfl rfl rfl ?_
            refine o_T (y_lenR hr1 Tryz.underlying81 rfl) rfl ?_
            refine o_take rfl rfl rfl ?_
            refine o_T (y_eql rfl rfl) rfl ?_
            refine o_T (y_pickT rfl rfl) rfl ?_
            refine o_T (y_move rfl) rfl ?_
            refine o_split 44 rfl (fun h4 => ?_) (fun h4 => ?_)
            · skip
              refine o_take rfl rfl rfl ?_
              refine o_T (y_fa fl_120_4 rfl) rfl ?_
              refine o_take rfl rfl rfl ?_
              refine o_ld one_118 rfl m0 (At.got (At.refl.comp Entr.a_hash)) rfl ?_
              refine o_take rfl rfl rfl ?_
              refine o_T (y_move rfl) rfl ?_
              refine o_take rfl rfl rfl ?_
              refine o_T (y_eql rfl rfl) rfl ?_
              refine o_T (y_pickT rfl rfl) rfl ?_
              refine o_nil1 49 rfl rfl ?_
              refine ⟨_, _, ⟨rfl, rfl⟩, ⟨by first | rfl | exact gtb rfl (by simp only [h3, h4, Bool.true_and, Bool.false_and, Bool.true_or, Bool.false_or, Bool.and_true, Bool.and_false, Bool.or_true, Bool.or_false, Bool.not_true, Bool.not_false]), trivial⟩, ⟨rfl, rfl⟩, _, (s_take (s_take (s_take (s_take (s_take (s_take (s_take (s_take s_nil))))))))⟩
            · skip
              refine o_pass rfl rfl rfl rfl rfl ?_
              refine o_pass rfl rfl rfl rfl rfl ?_
              refine o_pass rfl rfl rfl rfl rfl ?_
              refine o_pass rfl rfl rfl rfl rfl ?_
              refine o_T (y_pickF rfl rfl) rfl ?_
              refine o_nil1 49 rfl rfl ?_
              refine ⟨_, _, ⟨rfl, rfl⟩, ⟨by first | rfl | exact gtb rfl (by simp only [h3, h4, Bool.true_and, Bool.false_and, Bool.true_or, Bool.false_or, Bool.and_true, Bool.and_false, Bool.or_true, Bool.or_false, Bool.not_true, Bool.not_false]), trivial⟩, ⟨rfl, rfl⟩, _, (s_take (s_take (s_take (s_take (s_take (s_take (s_take (s_take s_nil))))))))⟩
          · skip
            refine o_pass rfl rfl rfl rfl rfl ?_
            refine o_pass rfl rfl rfl rfl rfl ?_
            refine o_pass rfl rfl rfl rfl rfl ?_
            refine o_pass rfl rfl rfl rfl rfl ?_
            refine o_pass rfl rfl rfl rfl rfl ?_
            refine o_T (y_pickF rfl rfl) rfl ?_
            refine o_T (y_move rfl) rfl ?_
            refine o_pass rfl rfl rfl rfl rfl ?_
            refine o_pass rfl rfl rfl rfl rfl ?_
            refine o_pass rfl rfl rfl rfl rfl ?_
            refine o_pass rfl rfl rfl rfl rfl ?_
            refine o_T (y_pickF rfl rfl) rfl ?_
            refine o_nil1 49 rfl rfl ?_
            refine ⟨_, _, ⟨rfl, rfl⟩, ⟨by first | rfl | exact gtb rfl (by simp only [h3, Bool.true_and, Bool.false_and, Bool.true_or, Bool.false_or, Bool.and_true, Bool.and_false, Bool.or_true, Bool.or_false, Bool.not_true, Bool.not_false]), trivial⟩, ⟨rfl, rfl⟩, _, (s_take (s_take (s_take (s_take (s_take (s_take (s_take (s_take s_nil))))))))⟩
        · rintro sh G ⟨rfl, rfl⟩
          refine c_cond rfl (fun h5 => ?_) (fun h5 => ?_)
          · have hm := cd_t h5 hm
            refine c_seq ?_
            refine c_region ?_
            refine o_T (y_move rfl) rfl ?_
            refine o_T (y_move rfl) rfl ?_
            refine o_T (y_move rfl) rfl ?_
            obtain ⟨c6, hx4, hm⟩ := bd1 hm
            refine o_callC en_261 rfl (s_skip (s_take (s_take (s_take (s_take (s_take (s_take s_nil))))))) (t261 ho1 ho2 ho3 ho4 (hr1.mono (fun _ hz => (ms (mg hz)))) hx4) rfl (fun u2 S2 hR2 => ?_)
            obtain ⟨rfl, rfl⟩ := hR2
            refine o_rest ?_
            refine o_nil1 53 rfl rfl ?_
            refine c_cond rfl (fun h6 => ?_) (fun h6 => ?_)
            · have hm := cd_t h6 hm
              refine c_seq ?_
              refine c_region ?_
              refine o_T (y_move rfl) rfl ?_
              refine o_L (y_assign rfl) rfl rfl ?_
              refine o_nil0 rfl ?_
              refine c_ret ?_
              obtain ⟨q1, hq1, hm⟩ := bd hm
              have hm := fl_ret hm hF2
              have hm := hq1.trans hm
              obtain rfl := p1 hm
              refine fun aX wX heX hsX => ret1 Tryz.results298 heX rfl (s_take (s_take (s_take (s_take (s_take (s_take (s_skip (s_take s_nil)))))))) ?_
              exact ⟨rfl, rfl⟩
            · have hm := cd_f h6 hm
              refine c_skip ?_
              refine c_region ?_
              refine o_T (y_fa fl_120_5 rfl) rfl ?_
              refine o_ld one_3 rfl (ms (ms (ms (ms (ms (ms m0)))))) (At.got (At.refl.comp Entr.a_nxt)) rfl ?_
              refine o_L (y_assign rfl) rfl rfl ?_
              refine o_nil0 rfl ?_
              refine c_region ?_
              refine o_T (y_move rfl) rfl ?_
              refine o_T (y_add rfl rfl rfl) rfl ?_
              refine o_L (y_assign rfl) rfl rfl ?_
              refine o_nil0 rfl ?_
              exact ⟨mm1, Nat.lt_succ_self _, _, _, ⟨_, _, rfl, rfl, hm⟩, ⟨rfl, rfl, trivial⟩, ⟨rfl, rfl⟩, _, (s_take (s_take (s_take (s_take (s_take (s_take (s_skip (s_take s_nil))))))))⟩
          · have hm := cd_f h5 hm
            refine c_skip ?_
            refine c_region ?_
            refine o_T (y_fa fl_120_5 rfl) rfl ?_
            refine o_ld one_3 rfl m0 (At.got (At.refl.comp Entr.a_nxt)) rfl ?_
            refine o_L (y_assign rfl) rfl rfl ?_
            refine o_nil0 rfl ?_
            refine c_region ?_
            refine o_T (y_move rfl) rfl ?_
            refine o_T (y_add rfl rfl rfl) rfl ?_
            refine o_L (y_assign rfl) rfl rfl ?_
            refine o_nil0 rfl ?_
            exact ⟨mm1, Nat.lt_succ_self _, _, _, ⟨_, _, rfl, rfl, hm⟩, ⟨rfl, rfl, trivial⟩, ⟨rfl, rfl⟩, _, (s_skip (s_take (s_take (s_take (s_take (s_take (s_take (s_take s_nil))))))))⟩
      · have hm := cd_f h2 hm
        refine c_exit ?_
        have hm := fl_nx hm hF2
        exact ⟨_, _, ⟨_, _, rfl, rfl, hm⟩, ⟨rfl, rfl, trivial⟩, ⟨rfl, rfl⟩, _, (s_take (s_take (s_take (s_take (s_take (s_take (s_take s_nil)))))))⟩
  · rintro sh G ⟨c4, c5, rfl, rfl, hm⟩
    subst hF1
    refine c_seq ?_
    refine c_region ?_
    refine o_L (y_assign rfl) rfl rfl ?_
    refine o_nil0 rfl ?_
    refine c_ret ?_
    obtain rfl := p1 hm
    refine fun aX wX heX hsX => ret1 Tryz.results298 heX rfl (s_take (s_take (s_take (s_take (s_take (s_take (s_take s_nil))))))) ?_
    exact ⟨rfl, rfl⟩
end Go.Proofs.Qxb6500350aGreat
