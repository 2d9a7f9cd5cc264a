/- MADE BY PROGRAM (tools350/mir.py): mirror and walk. -/
import Derived.Test.Qxb6500350aGreatF2
import Derived.Test.Qxb6500350aGreatT163
import Derived.Test.Qxb6500350aGreatT164
import Derived.Test.Qxb6500350aGreatT165
import Derived.Test.Qxb6500350aGreatT166
set_option linter.unusedVariables false
set_option linter.unusedSimpArgs false
set_option maxRecDepth 20000
set_option maxHeartbeats 4000000
namespace Go.Proofs.Qxb6500350aGreat
open Go.Eng

def op_72_11 : Array Go.Oper := #[{ dst := some 39, op := Go.Op.move (Go.Operand.tmp 3), type := 28, pos := "open.go:19", after := #[], guard := none }, { dst := some 40, op := Go.Op.move (Go.Operand.tmp 5), type := 3, pos := "open.go:19", after := #[], guard := none }, { dst := some 41, op := Go.Op.load 120 (Go.Operand.tmp 7), type := 120, pos := "open.go:19", after := #[], guard := none }, { dst := some 42, op := Go.Op.nilCheck (Go.Operand.tmp 39), type := 0, pos := "open.go:19", after := #[{ on := 0, ground := Go.Ground.data }], guard := none }, { dst := some 43, op := Go.Op.fieldAddr 126 (Go.Operand.tmp 42) 1, type := 0, pos := "open.go:19", after := #[{ on := 3, ground := Go.Ground.data }], guard := none }, { dst := some 44, op := Go.Op.indexAddr 121 (Go.Operand.tmp 43) (Go.Operand.tmp 40), type := 0, pos := "open.go:19", after := #[{ on := 4, ground := Go.Ground.data }, { on := 1, ground := Go.Ground.data }, { on := 0, ground := Go.Ground.phase }, { on := 1, ground := Go.Ground.phase }, { on := 2, ground := Go.Ground.phase }], guard := none }, { dst := none, op := Go.Op.store 120 (Go.Operand.tmp 44) (Go.Operand.tmp 41), type := 0, pos := "open.go:19", after := #[{ on := 5, ground := Go.Ground.data }, { on := 2, ground := Go.Ground.data }, { on := 0, ground := Go.Ground.phase }, { on := 1, ground := Go.Ground.phase }, { on := 2, ground := Go.Ground.phase }], guard := none }]
theorem sb_72_11_0 : softB op_72_11 #[true, true, true, true, true, true, false] (Array.replicate 7 false) 0 = true := by kernel_rfl
theorem sb_72_11_1 : softB op_72_11 #[true, true, true, true, true, true, false] ((Array.replicate 7 false).setIfInBounds 0 true) 1 = true := by kernel_rfl
theorem sb_72_11_2 : softB op_72_11 #[true, true, true, true, true, true, false] (((Array.replicate 7 false).setIfInBounds 0 true).setIfInBounds 1 true) 2 = true := by kernel_rfl
theorem sb_72_11_3 : softB op_72_11 #[true, true, true, true, true, true, false] ((((Array.replicate 7 false).setIfInBounds 0 true).setIfInBounds 1 true).setIfInBounds 2 true) 3 = true := by kernel_rfl
theorem sb_72_11_4 : softB op_72_11 #[true, true, true, true, true, true, false] (((((Array.replicate 7 false).setIfInBounds 0 true).setIfInBounds 1 true).setIfInBounds 2 true).setIfInBounds 3 true) 4 = true := by kernel_rfl
theorem sb_72_11_5 : softB op_72_11 #[true, true, true, true, true, true, false] ((((((Array.replicate 7 false).setIfInBounds 0 true).setIfInBounds 1 true).setIfInBounds 2 true).setIfInBounds 3 true).setIfInBounds 4 true) 5 = true := by kernel_rfl
theorem sb_72_11_6 : hardB op_72_11 (((((((Array.replicate 7 false).setIfInBounds 0 true).setIfInBounds 1 true).setIfInBounds 2 true).setIfInBounds 3 true).setIfInBounds 4 true).setIfInBounds 5 true) [6] = true := by kernel_rfl
theorem sb_72_11_7 : hardB op_72_11 ((((((((Array.replicate 7 false).setIfInBounds 0 true).setIfInBounds 1 true).setIfInBounds 2 true).setIfInBounds 3 true).setIfInBounds 4 true).setIfInBounds 5 true).setIfInBounds 6 true) [] = true := by kernel_rfl
/- objects.Open -/
def m72_w1 (n : Nat) (d : Dev) (l1 : List UInt8) (mm : Nat) : Int → Store → Option (Int × Store) := it2 (fun lp1 c1 z3 =>
cond (decide (c1 ≤ 48)) (
Option.bind (ixL l1 c1) fun x2 =>
cond (decide (¬ ((x2.toNat : Int) = 0))) (
ob2 (m164 n z3 d (x2.toNat : Int)) fun x3 c3 =>
nm (x3 : Entr) fun z6 =>
cond c3 (
Option.bind (ckA c1 49) fun _ =>
nm ({ z3 with tab := (upI z3.tab c1 z6) } : Store) fun z7 =>
nm ({ z7 with nfree := (wi (z7.nfree - 1)) } : Store) fun z8 =>
ob1 (m165 n z8 d (x2.toNat : Int)) fun z9 =>
ob1 (m166 n z9 c1) fun z10 =>
lp1 (wi (c1 + 1)) z10) (
lp1 (wi (c1 + 1)) z3)) (
lp1 (wi (c1 + 1)) z3)) (
some (c1, z3))) mm
def m72 (n : Nat) (d : Dev) : Option (Store) :=
ob1 (m163 n ({ Store.zero with nfree := 48 }) d 0) fun l1 =>
Option.bind (ixL l1 0) fun x1 =>
nm ({ ({ Store.zero with nfree := 48 }) with root := (x1.toNat : Int) } : Store) fun z2 =>
ob2 (m72_w1 n d l1 n 1 z2) fun c2 z4 =>
some z4
theorem t72 {n : Nat} {C : List Chunk} {rz1 : Store} {b1 : Nat} {d : Dev} {v1 : Value} {g1 : List Chunk} {v2 : Value} {g2 : List Chunk} {v3 : Value} {g3 : List Chunk} {v4 : Value} {g4 : List Chunk} (ho1 : Own rByte v1 d.blk g1) (ho2 : Own rByte v2 d.base g2) (ho3 : Own rInt v3 d.at_ g3) (ho4 : Own rByte v4 d.data g4)  (hm : m72 n d = some rz1) : Trip Tryz.prog 72 #[.pointer (some ⟨b1, 0, none⟩)] ([[(b1, .cells (Dev.enc (v1) (v2) (v3) (v4) d).toArray 85 (0, 0))], g1, g2, g3, g4] ++ [C]) (fun u S' => ∃ (eb1 : Nat), .pointer (some ⟨eb1, 0, none⟩) = u ∧ S' = [[(b1, .cells (Dev.enc (v1) (v2) (v3) (v4) d).toArray 85 (0, 0))], g1, g2, g3, g4, [(eb1, .cells (Store.enc (.pointer (some ⟨b1, 0, none⟩)) rz1).toArray 126 (0, 0))]] ++ [C]) := by
  refine fn_entry (args := [.pointer (some ⟨b1, 0, none⟩)]) Tryz.func72 rfl Tryz.ntmps72 rfl (fun w0 => ?_)
  refine c_seq ?_
  refine c_region ?_
  refine o_L (y_assign rfl) rfl rfl ?_
  refine o_nil0 rfl ?_
  refine c_seq ?_
  refine c_region ?_
  refine o_T (y_move rfl) rfl ?_
  refine o_T (y_build st_126 rfl (fbU rfl Store.u_d rfl rfl (fbU rfl Store.u_nfree rfl rfl fbU0))) rfl ?_
  refine o_box rfl rfl rfl rfl (fun b2 => ?_)
  refine o_L (y_assign rfl) rfl rfl ?_
  refine o_nil0 rfl ?_
  refine c_seq ?_
  refine c_region ?_
  refine o_T (y_move rfl) rfl ?_
  obtain ⟨l1, hx1, hm⟩ := bd1 hm
  refine o_callC en_163 rfl (s_take (s_take (s_take (s_take (s_take (s_take s_nil)))))) (t163 ho1 ho2 ho3 ho4 hx1) rfl (fun u1 S1 hR1 => ?_)
  obtain ⟨v5, g5, rfl, rfl, ho5⟩ := hR1
  refine o_rest ?_
  refine o_L (y_assign rfl) rfl rfl ?_
  refine o_nil0 rfl ?_
  refine c_seq ?_
  refine c_region ?_
  refine o_T (y_move rfl) rfl ?_
  refine o_T (y_move rfl) rfl ?_
  obtain ⟨x1, hx2, hm⟩ := bd hm
  obtain ⟨b3, w1, cs1, y1, z1, vs1, hc1, ha1, hr1, hy1⟩ := ho5.rd.ix hx2
  obtain rfl : vs1 = (enc8 x1) := hr1
  refine o_T (hy1 sl_81 rfl rfl rfl) rfl ?_
  refine o_ld one_5 rfl (ms (ms (ms (ms (ms (ms (mg hc1))))))) (At.getA (ha1)) rfl ?_
  refine o_T (y_conv Tryz.underlying5 Tryz.underlying3 rfl (wbi _)) rfl ?_
  refine o_T (y_nilck rfl) rfl ?_
  refine o_T (y_fa fl_126_5 rfl) rfl ?_
  obtain ⟨z2, hn1, hm⟩ := nm_s hm
  refine o_stN one_3 rfl rfl rfl (Upd.z Store.u_root) r0 (show (Store.enc (.pointer (some ⟨b1, 0, none⟩)) z2) = _ from by subst hn1; rfl) ?_
  refine o_nil0 rfl ?_
  refine c_seq ?_
  refine c_seq ?_
  refine c_region ?_
  refine o_L (y_assign rfl) rfl rfl ?_
  refine o_nil0 rfl ?_
  obtain ⟨c2, z4, hj1, hm⟩ := bd2 hm
  refine c_joinP (n := 1) (fun sh G => sh = [(5, .int .i64 c2)] ∧ G = [[(b2, .cells (Store.enc (.pointer (some ⟨b1, 0, none⟩)) z4).toArray 126 (0, 0))]]) (s_take (s_take (s_take (s_take (s_take (s_take (s_take (s_take s_nil)))))))) (.s .z) (fun _ _ h => h) ?_ ?_
  · skip
    refine c_block ?_
    refine c_loopP (n := 1) (fun mm sh G => ∃ (c1 : Int), ∃ (z3 : Store), sh = [(5, .int .i64 c1)] ∧ G = [[(b2, .cells (Store.enc (.pointer (some ⟨b1, 0, none⟩)) z3).toArray 126 (0, 0))]] ∧ m72_w1 n d l1 mm c1 z3 = some (c2, z4)) n (s_take (s_take (s_take (s_take (s_take (s_take (s_take (s_take s_nil)))))))) (.s .z) ⟨_, _, ⟨_, _, rfl, rfl, hj1⟩, ⟨rfl, trivial⟩, _, (s_take (s_take (s_take (s_take (s_take (s_take (s_take (s_take s_nil))))))))⟩ ?_
    rintro mm sh G ⟨c1, z3, rfl, rfl, hm⟩
    obtain ⟨mm1, rfl, hm⟩ := it2_s hm
    refine c_seq ?_
    refine c_seq ?_
    refine c_region ?_
    refine o_T (y_move rfl) rfl ?_
    refine o_T (y_leq rfl rfl) rfl ?_
    refine o_nil1 22 rfl rfl ?_
    refine c_cond rfl (fun h1 => ?_) (fun h1 => ?_)
    · have hm := cd_t h1 hm
      refine c_skip ?_
      refine c_seq ?_
      refine c_block ?_
      refine c_seq ?_
      refine c_region ?_
      refine o_T (y_move rfl) rfl ?_
      refine o_T (y_move rfl) rfl ?_
      obtain ⟨x2, hx3, hm⟩ := bd hm
      obtain ⟨b4, w2, cs2, y2, z5, vs2, hc2, ha2, hr2, hy2⟩ := ho5.rd.ix hx3
      obtain rfl : vs2 = (enc8 x2) := hr2
      refine o_T (hy2 sl_81 rfl rfl rfl) rfl ?_
      refine o_ld one_5 rfl (ms (ms (ms (ms (ms (ms (mg hc2))))))) (At.getA (ha2)) rfl ?_
      refine o_T (y_conv Tryz.underlying5 Tryz.underlying3 rfl (wbi _)) rfl ?_
      refine o_L (y_assign rfl) rfl rfl ?_
      refine o_nil0 rfl ?_
      refine c_seq ?_
      refine c_region ?_
      refine o_T (y_move rfl) rfl ?_
      refine o_T (y_neq rfl rfl) rfl ?_
      refine o_nil1 31 rfl rfl ?_
      refine c_cond rfl (fun h2 => ?_) (fun h2 => ?_)
      · have hm := cd_t h2 hm
        refine c_seq ?_
        refine c_region ?_
        refine o_T (y_move rfl) rfl ?_
        refine o_T (y_move rfl) rfl ?_
        obtain ⟨x3, c3, hx4, hm⟩ := bd2 hm
        refine o_callC en_164 rfl (s_take (s_take (s_take (s_take (s_take (s_take s_nil)))))) (t164 ho1 ho2 ho3 ho4 hx4) rfl (fun u2 S2 hR2 => ?_)
        obtain ⟨rfl, rfl⟩ := hR2
        refine o_rest ?_
        refine o_T (y_move rfl) rfl ?_
        refine o_T (y_extract rfl rfl) rfl ?_
        refine o_T (y_extract rfl rfl) rfl ?_
        refine o_alloc ze_120 rfl rfl (fun b5 => ?_)
        obtain ⟨z6, hn2, hm⟩ := nm_s hm
        refine o_stNA ag_120 rfl rfl (Entr.plain _) (Entr.len _) (Upd.refl ((Entr.len _).trans (Entr.len _).symm)) r0 (show (Entr.enc z6) = _ from by subst hn2; rfl) ?_
        refine o_L (y_assign rfl) rfl rfl ?_
        refine o_nil0 rfl ?_
        refine c_seq ?_
        refine c_region ?_
        refine o_T (y_move rfl) rfl ?_
        refine o_nil1 38 rfl rfl ?_
        refine c_cond rfl (fun h3 => ?_) (fun h3 => ?_)
        · have hm := cd_t h3 hm
          refine c_seq ?_
          refine c_draw #[true, true, true, true, true, true, false] rfl (n := 7) rfl ?_
          refine d_T 0 rfl sb_72_11_0 rfl (y_move rfl) rfl ?_
          refine d_T 1 rfl sb_72_11_1 rfl (y_move rfl) rfl ?_
          refine d_lda 2 rfl sb_72_11_2 ag_120 rfl (fun x hx => hx) m0 (At.exs At.refl (Entr.len _)) (At.fits At.refl (Entr.len _)) rfl ?_
          refine d_T 3 rfl sb_72_11_3 rfl (y_nilck rfl) rfl ?_
          refine d_T 4 rfl sb_72_11_4 rfl (y_fa fl_126_1 rfl) rfl ?_
          obtain ⟨_, hx5, hm⟩ := bd hm
          have hx5 := ckA_some hx5
          refine d_T 5 rfl sb_72_11_5 rfl (y_ia ar_121 rfl rfl hx5.1 hx5.2) rfl ?_
          refine d_hard 6 rfl sb_72_11_6 ?_
          obtain ⟨z7, hn3, hm⟩ := nm_s hm
          refine o_stNA ag_120 rfl rfl (Entr.plain _) (Entr.len _) ((Upd.z Store.u_tab).comp (encN_u Entr.len _ _ _ hx5.1 _ hx5.2)) (rs r0) (show (Store.enc (.pointer (some ⟨b1, 0, none⟩)) z7) = _ from by subst hn3; rfl) ?_
          refine o_stop (fun h => nomatch h) ?_
          refine d_nil0 sb_72_11_7 rfl ?_
          refine c_seq ?_
          refine c_region ?_
          refine o_T (y_move rfl) rfl ?_
          refine o_T (y_nilck rfl) rfl ?_
          refine o_T (y_fa fl_126_4 rfl) rfl ?_
          refine o_ld one_3 rfl (ms m0) (At.got (At.refl.comp Store.a_nfree)) rfl ?_
          refine o_T (y_sub rfl rfl rfl) rfl ?_
          refine o_T (y_nilck rfl) rfl ?_
          refine o_T (y_fa fl_126_4 rfl) rfl ?_
          obtain ⟨z8, hn4, hm⟩ := nm_s hm
          refine o_stN one_3 rfl rfl rfl (Upd.z Store.u_nfree) (rs r0) (show (Store.enc (.pointer (some ⟨b1, 0, none⟩)) z8) = _ from by subst hn4; rfl) ?_
          refine o_nil0 rfl ?_
          refine c_seq ?_
          refine c_region ?_
          refine o_T (y_move rfl) rfl ?_
          refine o_T (y_move rfl) rfl ?_
          obtain ⟨z9, hx6, hm⟩ := bd1 hm
          refine o_callC en_165 rfl (s_skip (s_take (s_take (s_take (s_take (s_take (s_take s_nil))))))) (t165 ho1 ho2 ho3 ho4 hx6) rfl (fun u3 S3 hR3 => ?_)
          obtain ⟨rfl, rfl⟩ := hR3
          refine o_rest ?_
          refine o_nil0 rfl ?_
          refine c_region ?_
          refine o_T (y_move rfl) rfl ?_
          refine o_T (y_move rfl) rfl ?_
          obtain ⟨z10, hx7, hm⟩ := bd1 hm
          refine o_callC en_166 rfl (s_take s_nil) (t166 hx7) rfl (fun u4 S4 hR4 => ?_)
          obtain ⟨rfl, rfl⟩ := hR4
          refine o_rest ?_
          refine o_nil0 rfl ?_
          refine c_region ?_
          refine o_T (y_move rfl) rfl ?_
          refine o_T (y_add rfl rfl rfl) rfl ?_
          refine o_L (y_assign rfl) rfl rfl ?_
          refine o_nil0 rfl ?_
          exact ⟨mm1, Nat.lt_succ_self _, _, _, ⟨_, _, rfl, rfl, hm⟩, ⟨rfl, trivial⟩, ⟨rfl, rfl⟩, _, (s_take (s_take (s_take (s_take (s_take (s_take (s_skip (s_take (s_take s_nil)))))))))⟩
        · have hm := cd_f h3 hm
          refine c_skip ?_
          refine c_region ?_
          refine o_T (y_move rfl) rfl ?_
          refine o_T (y_add rfl rfl rfl) rfl ?_
          refine o_L (y_assign rfl) rfl rfl ?_
          refine o_nil0 rfl ?_
          exact ⟨mm1, Nat.lt_succ_self _, _, _, ⟨_, _, rfl, rfl, hm⟩, ⟨rfl, trivial⟩, ⟨rfl, rfl⟩, _, (s_skip (s_take (s_take (s_take (s_take (s_take (s_take (s_take (s_take s_nil)))))))))⟩
      · have hm := cd_f h2 hm
        refine c_skip ?_
        refine c_region ?_
        refine o_T (y_move rfl) rfl ?_
        refine o_T (y_add rfl rfl rfl) rfl ?_
        refine o_L (y_assign rfl) rfl rfl ?_
        refine o_nil0 rfl ?_
        exact ⟨mm1, Nat.lt_succ_self _, _, _, ⟨_, _, rfl, rfl, hm⟩, ⟨rfl, trivial⟩, ⟨rfl, rfl⟩, _, (s_take (s_take (s_take (s_take (s_take (s_take (s_take (s_take s_nil))))))))⟩
    · have hm := cd_f h1 hm
      refine c_exit ?_
      obtain ⟨rfl, rfl⟩ := pr2 hm
      exact ⟨_, _, ⟨rfl, rfl⟩, ⟨rfl, trivial⟩, ⟨rfl, rfl⟩, _, (s_take (s_take (s_take (s_take (s_take (s_take (s_take (s_take s_nil))))))))⟩
  · rintro sh G ⟨rfl, rfl⟩
    refine c_seq ?_
    refine c_region ?_
    refine o_T (y_move rfl) rfl ?_
    refine o_L (y_assign rfl) rfl rfl ?_
    refine o_nil0 rfl ?_
    refine c_ret ?_
    obtain rfl := p1 hm
    refine fun aX wX heX hsX => ret1 Tryz.results72 heX rfl (s_get (ks k0) (s_get (ks k0) (s_get (ks k0) (s_get (ks k0) (s_get (ks k0) (s_take (s_skip (s_take s_nil)))))))) ?_
    exact ⟨b2, rfl, rfl⟩
end Go.Proofs.Qxb6500350aGreat
