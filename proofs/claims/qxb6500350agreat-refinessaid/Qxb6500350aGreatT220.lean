/- MADE BY PROGRAM (tools350/mir.py): mirror and walk. -/
import Derived.Test.Qxb6500350aGreatF2
import Derived.Test.Qxb6500350aGreatT278
set_option linter.unusedVariables false
set_option linter.unusedSimpArgs false
set_option maxRecDepth 20000
set_option maxHeartbeats 4000000
namespace Go.Proofs.Qxb6500350aGreat
open Go.Eng

def op_220_12 : Array Go.Oper := #[{ dst := some 49, op := Go.Op.load 172 (Go.Operand.tmp 6), type := 172, pos := "code.go:80", after := #[], guard := none }, { dst := some 50, op := Go.Op.move (Go.Operand.tmp 0), type := 81, pos := "code.go:80", after := #[], guard := none }, { dst := some 51, op := Go.Op.move (Go.Operand.tmp 5), type := 3, pos := "code.go:80", after := #[], guard := none }, { dst := some 52, op := Go.Op.binOp Go.BinOp.add 3 (Go.Operand.const (Go.Value.int Go.IntKind.i64 10)) (Go.Operand.tmp 51) 3, type := 3, pos := "code.go:80", after := #[{ on := 2, ground := Go.Ground.data }], guard := none }, { dst := some 53, op := Go.Op.slice 81 (Go.Operand.tmp 50) (some (Go.Operand.tmp 52)) none none, type := 81, pos := "code.go:80", after := #[{ on := 1, ground := Go.Ground.data }, { on := 3, ground := Go.Ground.data }], guard := none }, { dst := some 54, op := Go.Op.convert 81 9 (Go.Operand.tmp 53), type := 9, pos := "code.go:80", after := #[{ on := 4, ground := Go.Ground.data }, { on := 6, ground := Go.Ground.gcOnly Go.Departure.lateStores }], guard := none }, { dst := none, op := Go.Op.store 172 (Go.Operand.tmp 2) (Go.Operand.tmp 49), type := 0, pos := "code.go:80", after := #[{ on := 0, ground := Go.Ground.data }, { on := 0, ground := Go.Ground.phase }, { on := 1, ground := Go.Ground.textOnly Go.Departure.lateStores }, { on := 2, ground := Go.Ground.textOnly Go.Departure.lateStores }, { on := 3, ground := Go.Ground.textOnly Go.Departure.lateStores }, { on := 4, ground := Go.Ground.textOnly Go.Departure.lateStoresUnsure }, { on := 5, ground := Go.Ground.textOnly Go.Departure.lateStores }], guard := none }, { dst := some 3, op := Go.Op.assign (Go.Operand.tmp 54), type := 9, pos := "code.go:80", after := #[{ on := 5, ground := Go.Ground.data }, { on := 6, ground := Go.Ground.chain }, { on := 0, ground := Go.Ground.phase }, { on := 1, ground := Go.Ground.phase }, { on := 2, ground := Go.Ground.phase }, { on := 3, ground := Go.Ground.phase }, { on := 4, ground := Go.Ground.phase }, { on := 5, ground := Go.Ground.phase }, { on := 6, ground := Go.Ground.phase }], guard := none }, { dst := some 4, op := Go.Op.assign (Go.Operand.const (Go.Value.bool true)), type := 4, pos := "code.go:80", after := #[{ on := 7, ground := Go.Ground.chain }, { on := 0, ground := Go.Ground.phase }, { on := 1, ground := Go.Ground.phase }, { on := 2, ground := Go.Ground.phase }, { on := 3, ground := Go.Ground.phase }, { on := 4, ground := Go.Ground.phase }, { on := 5, ground := Go.Ground.phase }, { on := 6, ground := Go.Ground.phase }, { on := 7, ground := Go.Ground.phase }], guard := none }]
theorem sb_220_12_0 : softB op_220_12 #[true, true, true, true, true, true, true, true, true] (Array.replicate 9 false) 0 = true := by kernel_rfl
theorem sb_220_12_1 : softB op_220_12 #[true, true, true, true, true, true, true, true, true] ((Array.replicate 9 false).setIfInBounds 0 true) 1 = true := by kernel_rfl
theorem sb_220_12_2 : softB op_220_12 #[true, true, true, true, true, true, true, true, true] (((Array.replicate 9 false).setIfInBounds 0 true).setIfInBounds 1 true) 2 = true := by kernel_rfl
theorem sb_220_12_3 : softB op_220_12 #[true, true, true, true, true, true, true, true, true] ((((Array.replicate 9 false).setIfInBounds 0 true).setIfInBounds 1 true).setIfInBounds 2 true) 3 = true := by kernel_rfl
theorem sb_220_12_4 : softB op_220_12 #[true, true, true, true, true, true, true, true, true] (((((Array.replicate 9 false).setIfInBounds 0 true).setIfInBounds 1 true).setIfInBounds 2 true).setIfInBounds 3 true) 4 = true := by kernel_rfl
theorem sb_220_12_5 : softB op_220_12 #[true, true, true, true, true, true, true, true, true] ((((((Array.replicate 9 false).setIfInBounds 0 true).setIfInBounds 1 true).setIfInBounds 2 true).setIfInBounds 3 true).setIfInBounds 4 true) 5 = true := by kernel_rfl
theorem sb_220_12_6 : hardB op_220_12 (((((((Array.replicate 9 false).setIfInBounds 0 true).setIfInBounds 1 true).setIfInBounds 2 true).setIfInBounds 3 true).setIfInBounds 4 true).setIfInBounds 5 true) [6] = true := by kernel_rfl
theorem sb_220_12_7 : softB op_220_12 #[true, true, true, true, true, true, true, true, true] ((((((((Array.replicate 9 false).setIfInBounds 0 true).setIfInBounds 1 true).setIfInBounds 2 true).setIfInBounds 3 true).setIfInBounds 4 true).setIfInBounds 5 true).setIfInBounds 6 true) 7 = true := by kernel_rfl
theorem sb_220_12_8 : softB op_220_12 #[true, true, true, true, true, true, true, true, true] (((((((((Array.replicate 9 false).setIfInBounds 0 true).setIfInBounds 1 true).setIfInBounds 2 true).setIfInBounds 3 true).setIfInBounds 4 true).setIfInBounds 5 true).setIfInBounds 6 true).setIfInBounds 7 true) 8 = true := by kernel_rfl
theorem sb_220_12_9 : hardB op_220_12 ((((((((((Array.replicate 9 false).setIfInBounds 0 true).setIfInBounds 1 true).setIfInBounds 2 true).setIfInBounds 3 true).setIfInBounds 4 true).setIfInBounds 5 true).setIfInBounds 6 true).setIfInBounds 7 true).setIfInBounds 8 true) [] = true := by kernel_rfl
/- graph.decodeCommit -/
def m220_w1 (n : Nat) (d : (List UInt8)) (x1 : UInt8) (mm : Nat) : Int → Com → Option (Int × Com) := it2 (fun lp1 c2 z7 =>
cond (decide (c2 < (x1.toNat : Int))) (
Option.bind (ixL d (wi (10 + c2))) fun x3 =>
Option.bind (ckA c2 2) fun _ =>
nm ({ z7 with par := (upI z7.par c2 (x3.toNat : Int)) } : Com) fun z10 =>
lp1 (wi (c2 + 1)) z10) (
some (c2, z7))) mm
def m220 (n : Nat) (d : (List UInt8)) : Option (Com × Str × Bool) :=
cond (decide ((d.length : Int) < 10)) (
nm (Com.zero : Com) fun z1 =>
some (z1, [], false)) (
Option.bind (ixL d 9) fun x1 =>
cond ((decide ((2 : Int) < (x1.toNat : Int))) || (decide ((wi ((d.length : Int) - 10)) < (x1.toNat : Int)))) (
nm (Com.zero : Com) fun z3 =>
some (z3, [], false)) (
Option.bind (ixL d 8) fun x2 =>
nm (({ Com.zero with used := true, tree := (x2.toNat : Int), np := (x1.toNat : Int) }) : Com) fun z5 =>
ob1 (m278 n d) fun c1 =>
nm ({ z5 with seq := c1 } : Com) fun z6 =>
ob2 (m220_w1 n d x1 n 0 z6) fun c3 z8 =>
Option.bind (slL d (wi (10 + (x1.toNat : Int))) (d.length : Int)) fun l1 =>
nm (z8 : Com) fun z11 =>
some (z11, l1, true)))
theorem t220 {n : Nat} {C : List Chunk} {rx1 : Com} {rc1 : Str} {rc2 : Bool} {v1 : Value} {d : (List UInt8)} (hr1 : Rd rByte C v1 d)  (hm : m220 n d = some (rx1, rc1, rc2)) : Trip Tryz.prog 220 #[v1] ([] ++ [C]) (fun u S' => .tuple #[.agg (Com.enc rx1).toArray, .string ⟨(rc1 : Str).toArray⟩, .bool rc2] = u ∧ S' = [] ++ [C]) := by
  refine fn_entry (args := [v1]) Tryz.func220 rfl Tryz.ntmps220 rfl (fun w0 => ?_)
  refine c_seq ?_
  refine c_region ?_
  refine o_alloc ze_172 rfl rfl (fun b1 => ?_)
  refine o_L (y_assign rfl) rfl rfl ?_
  refine o_L (y_assign rfl) rfl rfl ?_
  refine o_nil0 rfl ?_
  refine c_seq ?_
  refine c_seq ?_
  refine c_region ?_
  refine o_T (y_move rfl) rfl ?_
  refine o_T (y_lenR hr1 Tryz.underlying81 rfl) rfl ?_
  refine o_T (y_lss rfl rfl) rfl ?_
  refine o_nil1 10 rfl rfl ?_
  refine c_cond rfl (fun h1 => ?_) (fun h1 => ?_)
  · have hm := cd_t h1 hm
    refine c_seq ?_
    refine c_region ?_
    refine o_T (y_build st_172 rfl fbU0) rfl ?_
    obtain ⟨z1, hn1, hm⟩ := nm_s hm
    refine o_stNA ag_172 rfl rfl (Com.plain _) (Com.len _) (Upd.refl ((Com.len _).trans (Com.len _).symm)) r0 (show (Com.enc z1) = _ from by subst hn1; rfl) ?_
    refine o_L (y_assign rfl) rfl rfl ?_
    refine o_L (y_assign rfl) rfl rfl ?_
    refine o_nil0 rfl ?_
    refine c_ret ?_
    obtain ⟨rfl, rfl, rfl⟩ := pr3 hm
    refine fun aX wX heX hsX => retctt Tryz.results220 heX hsX rfl rfl rfl ag_172 m0 (by simp [Com.len]) (s_skip (s_take s_nil)) ?_
    exact ⟨rfl, rfl⟩
  · have hm := cd_f h1 hm
    refine c_skip ?_
    refine c_seq ?_
    refine c_region ?_
    refine o_T (y_move rfl) rfl ?_
    obtain ⟨x1, hx1, hm⟩ := bd hm
    obtain ⟨b2, w1, cs1, y1, z2, vs1, hc1, ha1, hr2, hy1⟩ := hr1.ix hx1
    obtain rfl : vs1 = (enc8 x1) := hr2
    refine o_T (hy1 sl_81 rfl rfl rfl) rfl ?_
    refine o_ld one_5 rfl (ms (mg hc1)) (At.getA (ha1)) rfl ?_
    refine o_T (y_conv Tryz.underlying5 Tryz.underlying3 rfl (wbi _)) rfl ?_
    refine o_L (y_assign rfl) rfl rfl ?_
    refine o_nil0 rfl ?_
    refine c_seq ?_
    refine c_seq ?_
    refine c_joinP (n := 0) (fun sh G => sh = [(24, .bool ((decide ((2 : Int) < (x1.toNat : Int))) || (decide ((wi ((d.length : Int) - 10)) < (x1.toNat : Int)))))] ∧ G = []) Sel.all' .z (fun _ _ h => h) ?_ ?_
    · skip
      refine c_region ?_
      refine o_T (y_move rfl) rfl ?_
      refine o_T (y_gtr rfl rfl) rfl ?_
      refine o_T (y_move rfl) rfl ?_
      refine o_split 18 rfl (fun h2 => ?_) (fun h2 => ?_)
      · skip
        refine o_pass rfl rfl rfl rfl rfl ?_
        refine o_pass rfl rfl rfl rfl rfl ?_
        refine o_pass rfl rfl rfl rfl rfl ?_
        refine o_pass rfl rfl rfl rfl rfl ?_
        refine o_pass rfl rfl rfl rfl rfl ?_
        refine o_T (y_pickT rfl rfl) rfl ?_
        refine o_nil1 24 rfl rfl ?_
        refine ⟨_, _, ⟨rfl, rfl⟩, ⟨by first | rfl | exact gtb rfl (by simp only [h2, Bool.true_and, Bool.false_and, Bool.true_or, Bool.false_or, Bool.and_true, Bool.and_false, Bool.or_true, Bool.or_false, Bool.not_true, Bool.not_false]), trivial⟩, ⟨rfl, rfl⟩, _, (s_take (s_take s_nil))⟩
      · skip
        refine o_take rfl rfl rfl ?_
        refine o_T (y_move rfl) rfl ?_
        refine o_take rfl rfl rfl ?_
        refine o_T (y_move rfl) rfl ?_
        refine o_take rfl rfl rfl ?_
        refine o_T (y_lenR hr1 Tryz.underlying81 rfl) rfl ?_
        refine o_take rfl rfl rfl ?_
        refine o_T (y_sub rfl rfl rfl) rfl ?_
        refine o_take rfl rfl rfl ?_
        refine o_T (y_gtr rfl rfl) rfl ?_
        refine o_T (y_pickF rfl rfl) rfl ?_
        refine o_nil1 24 rfl rfl ?_
        refine ⟨_, _, ⟨rfl, rfl⟩, ⟨by first | rfl | exact gtb rfl (by simp only [h2, Bool.true_and, Bool.false_and, Bool.true_or, Bool.false_or, Bool.and_true, Bool.and_false, Bool.or_true, Bool.or_false, Bool.not_true, Bool.not_false]), trivial⟩, ⟨rfl, rfl⟩, _, (s_take (s_take s_nil))⟩
    · rintro sh G ⟨rfl, rfl⟩
      refine c_cond rfl (fun h3 => ?_) (fun h3 => ?_)
      · have hm := cd_t h3 hm
        refine c_seq ?_
        refine c_region ?_
        refine o_T (y_build st_172 rfl fbU0) rfl ?_
        obtain ⟨z3, hn2, hm⟩ := nm_s hm
        refine o_stNA ag_172 rfl rfl (Com.plain _) (Com.len _) (Upd.refl ((Com.len _).trans (Com.len _).symm)) r0 (show (Com.enc z3) = _ from by subst hn2; rfl) ?_
        refine o_L (y_assign rfl) rfl rfl ?_
        refine o_L (y_assign rfl) rfl rfl ?_
        refine o_nil0 rfl ?_
        refine c_ret ?_
        obtain ⟨rfl, rfl, rfl⟩ := pr3 hm
        refine fun aX wX heX hsX => retctt Tryz.results220 heX hsX rfl rfl rfl ag_172 m0 (by simp [Com.len]) (s_skip (s_take s_nil)) ?_
        exact ⟨rfl, rfl⟩
      · have hm := cd_f h3 hm
        refine c_skip ?_
        refine c_seq ?_
        refine c_region ?_
        refine o_T (y_move rfl) rfl ?_
        obtain ⟨x2, hx2, hm⟩ := bd hm
        obtain ⟨b3, w2, cs2, y2, z4, vs2, hc2, ha2, hr3, hy2⟩ := hr1.ix hx2
        obtain rfl : vs2 = (enc8 x2) := hr3
        refine o_T (hy2 sl_81 rfl rfl rfl) rfl ?_
        refine o_ld one_5 rfl (ms (mg hc2)) (At.getA (ha2)) rfl ?_
        refine o_T (y_conv Tryz.underlying5 Tryz.underlying3 rfl (wbi _)) rfl ?_
        refine o_T (y_move rfl) rfl ?_
        refine o_T (y_build st_172 rfl (fbU rfl Com.u_used rfl rfl (fbU rfl Com.u_tree rfl rfl (fbU rfl Com.u_np rfl rfl fbU0)))) rfl ?_
        refine o_alloc ze_172 rfl rfl (fun b4 => ?_)
        obtain ⟨z5, hn3, hm⟩ := nm_s hm
        refine o_stNA ag_172 rfl rfl (Com.plain _) (Com.len _) (Upd.refl ((Com.len _).trans (Com.len _).symm)) r0 (show (Com.enc z5) = _ from by subst hn3; rfl) ?_
        refine o_nil0 rfl ?_
        refine c_seq ?_
        refine c_region ?_
        refine o_T (y_move rfl) rfl ?_
        obtain ⟨c1, hx3, hm⟩ := bd1 hm
        refine o_callC en_278 rfl s_nil (t278 (hr1.mono (fun _ hz => (ms (ms (mg hz))))) hx3) rfl (fun u1 S1 hR1 => ?_)
        obtain ⟨rfl, rfl⟩ := hR1
        refine o_rest ?_
        refine o_T (y_fa fl_172_1 rfl) rfl ?_
        obtain ⟨z6, hn4, hm⟩ := nm_s hm
        refine o_stN one_3 rfl rfl rfl (Upd.z Com.u_seq) r0 (show (Com.enc z6) = _ from by subst hn4; rfl) ?_
        refine o_nil0 rfl ?_
        refine c_seq ?_
        refine c_seq ?_
        refine c_region ?_
        refine o_L (y_assign rfl) rfl rfl ?_
        refine o_nil0 rfl ?_
        obtain ⟨c3, z8, hj1, hm⟩ := bd2 hm
        refine c_joinP (n := 1) (fun sh G => sh = [(7, .int .i64 c3)] ∧ G = [[(b4, .cells (Com.enc z8).toArray 172 (0, 0))]]) (s_take (s_take (s_take s_nil))) (.s .z) (fun _ _ h => h) ?_ ?_
        · skip
          refine c_block ?_
          refine c_loopP (n := 1) (fun mm sh G => ∃ (c2 : Int), ∃ (z7 : Com), sh = [(7, .int .i64 c2)] ∧ G = [[(b4, .cells (Com.enc z7).toArray 172 (0, 0))]] ∧ m220_w1 n d x1 mm c2 z7 = some (c3, z8)) n (s_take (s_take (s_take s_nil))) (.s .z) ⟨_, _, ⟨_, _, rfl, rfl, hj1⟩, ⟨rfl, trivial⟩, _, (s_take (s_take (s_take s_nil)))⟩ ?_
          rintro mm sh G ⟨c2, z7, rfl, rfl, hm⟩
          obtain ⟨mm1, rfl, hm⟩ := it2_s hm
          refine c_seq ?_
          refine c_seq ?_
          refine c_region ?_
          refine o_T (y_move rfl) rfl ?_
          refine o_T (y_move rfl) rfl ?_
          refine o_T (y_lss rfl rfl) rfl ?_
          refine o_nil1 37 rfl rfl ?_
          refine c_cond rfl (fun h4 => ?_) (fun h4 => ?_)
          · have hm := cd_t h4 hm
            refine c_skip ?_
            refine c_seq ?_
            refine c_block ?_
            refine c_region ?_
            refine o_T (y_move rfl) rfl ?_
            refine o_T (y_move rfl) rfl ?_
            refine o_T (y_move rfl) rfl ?_
            refine o_T (y_add rfl rfl rfl) rfl ?_
            obtain ⟨x3, hx4, hm⟩ := bd hm
            obtain ⟨b5, w3, cs3, y3, z9, vs3, hc3, ha3, hr4, hy3⟩ := hr1.ix hx4
            obtain rfl : vs3 = (enc8 x3) := hr4
            refine o_T (hy3 sl_81 rfl rfl rfl) rfl ?_
            refine o_ld one_5 rfl (ms (ms (mg hc3))) (At.getA (ha3)) rfl ?_
            refine o_T (y_conv Tryz.underlying5 Tryz.underlying3 rfl (wbi _)) rfl ?_
            refine o_T (y_fa fl_172_4 rfl) rfl ?_
            obtain ⟨_, hx5, hm⟩ := bd hm
            have hx5 := ckA_some hx5
            refine o_T (y_ia ar_170 rfl rfl hx5.1 hx5.2) rfl ?_
            obtain ⟨z10, hn5, hm⟩ := nm_s hm
            refine o_stN one_3 rfl rfl rfl ((Upd.z Com.u_par).comp (encN_u encI_len _ _ _ hx5.1 _ hx5.2)) r0 (show (Com.enc z10) = _ from by subst hn5; rfl) ?_
            refine o_nil0 rfl ?_
            refine c_region ?_
            refine o_T (y_move rfl) rfl ?_
            refine o_T (y_add rfl rfl rfl) rfl ?_
            refine o_L (y_assign rfl) rfl rfl ?_
            refine o_nil0 rfl ?_
            exact ⟨mm1, Nat.lt_succ_self _, _, _, ⟨_, _, rfl, rfl, hm⟩, ⟨rfl, trivial⟩, ⟨rfl, rfl⟩, _, (s_take (s_take (s_take s_nil)))⟩
          · have hm := cd_f h4 hm
            refine c_exit ?_
            obtain ⟨rfl, rfl⟩ := pr2 hm
            exact ⟨_, _, ⟨rfl, rfl⟩, ⟨rfl, trivial⟩, ⟨rfl, rfl⟩, _, (s_take (s_take (s_take s_nil)))⟩
        · rintro sh G ⟨rfl, rfl⟩
          refine c_seq ?_
          refine c_front (s_get (ks k0) (s_take (s_take s_nil))) ?_
          refine c_drawT #[true, true, true, true, true, true, true, true, true] rfl (n := 9) rfl ?_
          refine d_lda 0 rfl sb_220_12_0 ag_172 rfl (fun x hx => (ms hx)) m0 (At.exs At.refl (Com.len _)) (At.fits At.refl (Com.len _)) rfl ?_
          refine d_T 1 rfl sb_220_12_1 rfl (y_move rfl) rfl ?_
          refine d_T 2 rfl sb_220_12_2 rfl (y_move rfl) rfl ?_
          refine d_T 3 rfl sb_220_12_3 rfl (y_add rfl rfl rfl) rfl ?_
          obtain ⟨l1, hx6, hm⟩ := bd hm
          obtain ⟨v2, hr5, hy4⟩ := hr1.sl hx6
          refine d_T 4 rfl sb_220_12_4 rfl (hy4 sl_81 rfl rfl (biS rfl) biN) rfl ?_
          refine d_b2s 5 rfl sb_220_12_5 (fun x hx => (ms hx)) Tryz.underlying81 Tryz.underlying5 Tryz.underlying9 rfl hr5 (fun _ hz => (ms (mg hz))) rfl ?_
          refine d_hard 6 rfl sb_220_12_6 ?_
          obtain ⟨z11, hn6, hm⟩ := nm_s hm
          refine o_stNA ag_172 rfl rfl (Com.plain _) (Com.len _) (Upd.refl ((Com.len _).trans (Com.len _).symm)) r0 (show (Com.enc z11) = _ from by subst hn6; rfl) ?_
          refine o_stop (fun _ => (fun x hx => (ms hx))) ?_
          refine d_L 7 rfl sb_220_12_7 rfl (y_assign rfl) rfl rfl ?_
          refine d_L 8 rfl sb_220_12_8 rfl (y_assign rfl) rfl rfl ?_
          refine d_nil0 sb_220_12_9 rfl ?_
          refine c_ret ?_
          obtain ⟨rfl, rfl, rfl⟩ := pr3 hm
          refine fun aX wX heX hsX => retctt Tryz.results220 heX hsX rfl rfl rfl ag_172 m0 (by simp [Com.len]) (s_skip (s_skip (s_take s_nil))) ?_
          exact ⟨rfl, rfl⟩
end Go.Proofs.Qxb6500350aGreat
