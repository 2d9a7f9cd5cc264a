/- MADE BY PROGRAM (tools350/mir.py): mirror and walk. -/
import Derived.Test.Qxb6500350aGreatF2
import Derived.Test.Qxb6500350aGreatT122
import Derived.Test.Qxb6500350aGreatT126
import Derived.Test.Qxb6500350aGreatT127
import Derived.Test.Qxb6500350aGreatT128
import Derived.Test.Qxb6500350aGreatT96
import Derived.Test.Qxb6500350aGreatT129
import Derived.Test.Qxb6500350aGreatT130
import Derived.Test.Qxb6500350aGreatT131
import Derived.Test.Qxb6500350aGreatT132
set_option linter.unusedVariables false
set_option linter.unusedSimpArgs false
set_option maxRecDepth 20000
set_option maxHeartbeats 4000000
namespace Go.Proofs.Qxb6500350aGreat
open Go.Eng

/- (*repo.Repo).Commit -/
def m55_w1 (n : Nat) (g : Graph) (t : Trees) (s : Store) (d : Dev) (x : Index) (l1 : List File) (mm : Nat) : Int → Option (Flow (Int × Int × Graph × Trees × Store × Dev × Index) (Int)) := it1 (fun lp1 c1 =>
cond (decide (c1 < (l1.length : Int))) (
Option.bind (ixL l1 c1) fun x1 =>
cond (decide (x1.mode = 1)) (
Option.bind (some (0, 21, g, t, s, d, x)) fun q2 => some (.ret q2)) (
lp1 (wi (c1 + 1)))) (
some (.nx c1))) mm
def m55 (n : Nat) (r : RepoR) (g : Graph) (t : Trees) (s : Store) (d : Dev) (x : Index) (msg : Str) : Option (Int × Int × Graph × Trees × Store × Dev × Index) :=
cond (decide ((16 : Int) < (msg.length : Int))) (
some (0, 19, g, t, s, d, x)) (
ob1 (m122 n x) fun l1 =>
flow (m55_w1 n g t s d x l1 n 0) some (un1 fun c2 =>
ob1 (m126 n g) fun x2 =>
nm (x2 : Head) fun z2 =>
ob1 (m127 n r g z2) fun c3 =>
flow (cond (decide (z2.merge = 0)) (
ob1 (m128 n r g t s d c3) fun l2 =>
ob1 (m96 n l1 l2) fun c4 =>
cond c4 (
Option.bind (some (0, 23, g, t, s, d, x)) fun q3 => some (.ret q3)) (
some (.nx ()))) (
some (.nx ()))) some (fun _ =>
ob1 (cond (decide (¬ (c3 = 0))) (
Option.bind (apd ([] : List Int) c3) fun l4 =>
some l4) (
some ([] : List Int))) fun l3 =>
ob1 (cond (decide (¬ (z2.merge = 0))) (
Option.bind (apd l3 z2.merge) fun l6 =>
some l6) (
some l3)) fun l5 =>
ob6 (m129 n g t s d l1 l5 msg) fun c5 c6 z3 z4 z5 z6 =>
ob2 (cond (decide (c6 = 0)) (
ob2 (m130 n r z3 z2 c5) fun c8 z8 =>
some (c8, z8)) (
some (c6, z3))) fun c7 z7 =>
cond (decide (¬ (c7 = 0))) (
ob5 (m131 n r z7 z4 z5 z6 x c7) fun c9 z9 z10 z11 z12 =>
some (0, c9, z9, z10, z11, z6, z12)) (
ob6 (m132 n r z7 z4 z5 z6 x) fun c10 z13 z14 z15 z16 z17 =>
cond (decide (¬ (c10 = 0))) (
some (0, c10, z13, z14, z15, z16, z17)) (
some (c5, 0, z13, z14, z15, z16, z17))))))
theorem t55 {n : Nat} {C : List Chunk} {rc1 : Int} {rc2 : Int} {rz1 : Graph} {rz2 : Trees} {rz3 : Store} {rz4 : Dev} {rz5 : Index} {b1 : Nat} {r : RepoR} {b2 : Nat} {g : Graph} {b3 : Nat} {t : Trees} {b4 : Nat} {s : Store} {b5 : Nat} {d : Dev} {v1 : Value} {g1 : List Chunk} {v2 : Value} {g2 : List Chunk} {v3 : Value} {g3 : List Chunk} {v4 : Value} {g4 : List Chunk} {b6 : Nat} {x : Index} {q1 : Option Addr} {msg : Str} (ho1 : Own rByte v1 d.blk g1) (ho2 : Own rByte v2 d.base g2) (ho3 : Own rInt v3 d.at_ g3) (ho4 : Own rByte v4 d.data g4)  (hm : m55 n r g t s d x msg = some (rc1, rc2, rz1, rz2, rz3, rz4, rz5)) : Trip Tryz.prog 55 #[.pointer (some ⟨b1, 0, none⟩), .string ⟨(msg : Str).toArray⟩] ([[(b1, .cells (RepoR.enc (.pointer (some ⟨b2, 0, none⟩)) (.pointer (some ⟨b6, 0, none⟩)) ((.pointer q1)) r).toArray 130 (0, 0))], [(b2, .cells (Graph.enc (.pointer (some ⟨b3, 0, none⟩)) g).toArray 179 (0, 0))], [(b3, .cells (Trees.enc (.pointer (some ⟨b4, 0, none⟩)) t).toArray 169 (0, 0))], [(b4, .cells (Store.enc (.pointer (some ⟨b5, 0, none⟩)) s).toArray 126 (0, 0))], [(b5, .cells (Dev.enc (v1) (v2) (v3) (v4) d).toArray 85 (0, 0))], g1, g2, g3, g4, [(b6, .cells (Index.enc x).toArray 184 (0, 0))]] ++ [C]) (fun u S' => ∃ (ev1 : Value), ∃ (eg1 : List Chunk), ∃ (ev2 : Value), ∃ (eg2 : List Chunk), ∃ (ev3 : Value), ∃ (eg3 : List Chunk), ∃ (ev4 : Value), ∃ (eg4 : List Chunk), .tuple #[.int .i64 rc1, .int .i64 rc2] = u ∧ S' = [[(b1, .cells (RepoR.enc (.pointer (some ⟨b2, 0, none⟩)) (.pointer (some ⟨b6, 0, none⟩)) ((.pointer q1)) r).toArray 130 (0, 0))], [(b2, .cells (Graph.enc (.pointer (some ⟨b3, 0, none⟩)) rz1).toArray 179 (0, 0))], [(b3, .cells (Trees.enc (.pointer (some ⟨b4, 0, none⟩)) rz2).toArray 169 (0, 0))], [(b4, .cells (Store.enc (.pointer (some ⟨b5, 0, none⟩)) rz3).toArray 126 (0, 0))], [(b5, .cells (Dev.enc (ev1) (ev2) (ev3) (ev4) rz4).toArray 85 (0, 0))], eg1, eg2, eg3, eg4, [(b6, .cells (Index.enc rz5).toArray 184 (0, 0))]] ++ [C] ∧ Own rByte ev1 rz4.blk eg1 ∧ Own rByte ev2 rz4.base eg2 ∧ Own rInt ev3 rz4.at_ eg3 ∧ Own rByte ev4 rz4.data eg4) := by
  refine fn_entry (args := [.pointer (some ⟨b1, 0, none⟩), .string ⟨(msg : Str).toArray⟩]) Tryz.func55 rfl Tryz.ntmps55 rfl (fun w0 => ?_)
  refine c_seq ?_
  refine c_region ?_
  refine o_L (y_assign rfl) rfl rfl ?_
  refine o_L (y_assign rfl) rfl rfl ?_
  refine o_nil0 rfl ?_
  refine c_seq ?_
  refine c_seq ?_
  refine c_region ?_
  refine o_T (y_move rfl) rfl ?_
  refine o_T (y_slen Tryz.underlying9 rfl) rfl ?_
  refine o_T (y_gtr rfl rfl) rfl ?_
  refine o_nil1 16 rfl rfl ?_
  refine c_cond rfl (fun h1 => ?_) (fun h1 => ?_)
  · have hm := cd_t h1 hm
    refine c_seq ?_
    refine c_region ?_
    refine o_L (y_assign rfl) rfl rfl ?_
    refine o_L (y_assign rfl) rfl rfl ?_
    refine o_nil0 rfl ?_
    refine c_ret ?_
    obtain ⟨rfl, rfl, rfl, rfl, rfl, rfl, rfl⟩ := pr7 hm
    refine fun aX wX heX hsX => ret2 Tryz.results55 heX rfl rfl (s_take (s_take (s_take (s_take (s_take (s_take (s_take (s_take (s_take (s_take (s_take s_nil))))))))))) ?_
    exact ⟨v1, _, v2, _, v3, _, v4, _, rfl, rfl, ho1, ho2, ho3, ho4⟩
  · have hm := cd_f h1 hm
    refine c_skip ?_
    refine c_seq ?_
    refine c_region ?_
    refine o_T (y_move rfl) rfl ?_
    refine o_T (y_nilck rfl) rfl ?_
    refine o_T (y_fa fl_130_1 rfl) rfl ?_
    refine o_ld one_31 rfl m0 (At.got (At.refl.comp RepoR.a_x)) rfl ?_
    obtain ⟨l1, hx1, hm⟩ := bd1 hm
    refine o_callC en_122 rfl (s_skip (s_skip (s_skip (s_skip (s_skip (s_skip (s_skip (s_skip (s_skip (s_take s_nil)))))))))) (t122 hx1) rfl (fun u1 S1 hR1 => ?_)
    obtain ⟨v5, g5, rfl, rfl, ho5⟩ := hR1
    refine o_rest ?_
    refine o_L (y_assign rfl) rfl rfl ?_
    refine o_nil0 rfl ?_
    refine c_seq ?_
    refine c_seq ?_
    refine c_region ?_
    refine o_L (y_assign rfl) rfl rfl ?_
    refine o_nil0 rfl ?_
    obtain ⟨f1, F1, hF1, hj1, hF2⟩ := fl2 hm
    refine c_joinP (n := 0) (fun sh G => ∃ (c2 : Int), sh = [(7, .int .i64 c2)] ∧ G = [] ∧ F1 c2 = some (rc1, rc2, rz1, rz2, rz3, rz4, rz5)) (s_take (s_take (s_take (s_take (s_take (s_take (s_take (s_take (s_take (s_take (s_take (s_take s_nil)))))))))))) .z (fun _ _ h => h) ?_ ?_
    · skip
      refine c_block ?_
      refine c_loopP (n := 0) (fun mm sh G => ∃ (c1 : Int), sh = [(7, .int .i64 c1)] ∧ G = [] ∧ m55_w1 n g t s d x l1 mm c1 = some f1) n (s_take (s_take (s_take (s_take (s_take (s_take (s_take (s_take (s_take (s_take (s_take (s_take s_nil)))))))))))) .z ⟨_, _, ⟨_, rfl, rfl, hj1⟩, ⟨rfl, trivial⟩, _, (s_take (s_take (s_take (s_take (s_take (s_take (s_take (s_take (s_take (s_take (s_take (s_take s_nil))))))))))))⟩ ?_
      rintro mm sh G ⟨c1, rfl, rfl, hm⟩
      obtain ⟨mm1, rfl, hm⟩ := it1_s hm
      refine c_seq ?_
      refine c_seq ?_
      refine c_region ?_
      refine o_T (y_move rfl) rfl ?_
      refine o_T (y_move rfl) rfl ?_
      refine o_T (y_lenR ho5.rd Tryz.underlying57 rfl) rfl ?_
      refine o_T (y_lss rfl rfl) rfl ?_
      refine o_nil1 25 rfl rfl ?_
      refine c_cond rfl (fun h2 => ?_) (fun h2 => ?_)
      · have hm := cd_t h2 hm
        refine c_skip ?_
        refine c_seq ?_
        refine c_block ?_
        refine c_seq ?_
        refine c_region ?_
        refine o_T (y_move rfl) rfl ?_
        refine o_T (y_move rfl) rfl ?_
        obtain ⟨x1, hx2, hm⟩ := bd hm
        obtain ⟨b7, w1, cs1, y1, z1, vs1, hc1, ha1, hr1, hy1⟩ := ho5.rd.ix hx2
        obtain rfl : vs1 = File.enc x1 := hr1
        refine o_T (hy1 sl_57 rfl rfl rfl) rfl ?_
        refine o_T (y_fa fl_71_2 rfl) rfl ?_
        refine o_ld one_3 rfl (ms (mg hc1)) (At.getA (ha1.comp File.a_mode)) rfl ?_
        refine o_T (y_eql rfl rfl) rfl ?_
        refine o_nil1 33 rfl rfl ?_
        refine c_cond rfl (fun h3 => ?_) (fun h3 => ?_)
        · have hm := cd_t h3 hm
          refine c_seq ?_
          refine c_region ?_
          refine o_L (y_assign rfl) rfl rfl ?_
          refine o_L (y_assign rfl) rfl rfl ?_
          refine o_nil0 rfl ?_
          refine c_ret ?_
          obtain ⟨q2, hq1, hm⟩ := bd hm
          have hm := fl_ret hm hF2
          have hm := hq1.trans hm
          obtain ⟨rfl, rfl, rfl, rfl, rfl, rfl, rfl⟩ := pr7 hm
          refine fun aX wX heX hsX => ret2 Tryz.results55 heX rfl rfl (s_get (ks (ks k0)) (s_get (ks (ks k0)) (s_get (ks (ks k0)) (s_get (ks (ks k0)) (s_get (ks (ks k0)) (s_get (ks (ks k0)) (s_get (ks (ks k0)) (s_get (ks (ks k0)) (s_get (ks (ks k0)) (s_take (s_skip (s_take s_nil)))))))))))) ?_
          exact ⟨v1, _, v2, _, v3, _, v4, _, rfl, rfl, ho1, ho2, ho3, ho4⟩
        · have hm := cd_f h3 hm
          refine c_skip ?_
          refine c_region ?_
          refine o_T (y_move rfl) rfl ?_
          refine o_T (y_add rfl rfl rfl) rfl ?_
          refine o_L (y_assign rfl) rfl rfl ?_
          refine o_nil0 rfl ?_
          exact ⟨mm1, Nat.lt_succ_self _, _, _, ⟨_, rfl, rfl, hm⟩, ⟨rfl, trivial⟩, ⟨rfl, rfl⟩, _, (s_take (s_take (s_take (s_take (s_take (s_take (s_take (s_take (s_take (s_take (s_take (s_take s_nil))))))))))))⟩
      · have hm := cd_f h2 hm
        refine c_exit ?_
        have hm := fl_nx hm hF2
        exact ⟨_, _, ⟨_, rfl, rfl, hm⟩, ⟨rfl, trivial⟩, ⟨rfl, rfl⟩, _, (s_take (s_take (s_take (s_take (s_take (s_take (s_take (s_take (s_take (s_take (s_take (s_take s_nil))))))))))))⟩
    · rintro sh G ⟨c2, rfl, rfl, hm⟩
      subst hF1
      refine c_seq ?_
      refine c_region ?_
      refine o_T (y_move rfl) rfl ?_
      refine o_T (y_nilck rfl) rfl ?_
      refine o_T (y_fa fl_130_0 rfl) rfl ?_
      refine o_ld one_30 rfl (ms (ms m0)) (At.got (At.refl.comp RepoR.a_g)) rfl ?_
      obtain ⟨x2, hx3, hm⟩ := bd1 hm
      refine o_callC en_126 rfl (s_skip (s_skip (s_skip (s_take s_nil)))) (t126 hx3) rfl (fun u2 S2 hR2 => ?_)
      obtain ⟨rfl, rfl⟩ := hR2
      refine o_rest ?_
      refine o_alloc ze_54 rfl rfl (fun b8 => ?_)
      obtain ⟨z2, hn1, hm⟩ := nm_s hm
      refine o_stNA ag_54 rfl rfl (Head.plain _) (Head.len _) (Upd.refl ((Head.len _).trans (Head.len _).symm)) r0 (show (Head.enc z2) = _ from by subst hn1; rfl) ?_
      refine o_nil0 rfl ?_
      refine c_seq ?_
      refine c_region ?_
      refine o_T (y_move rfl) rfl ?_
      refine o_lda ag_54 rfl m0 (At.exs At.refl (Head.len _)) (At.fits At.refl (Head.len _)) rfl ?_
      obtain ⟨c3, hx4, hm⟩ := bd1 hm
      refine o_callC en_127 rfl (s_skip (s_get (ks (ks (ks k0))) (s_take s_nil))) (t127 hx4) rfl (fun u3 S3 hR3 => ?_)
      obtain ⟨rfl, rfl⟩ := hR3
      refine o_rest ?_
      refine o_L (y_assign rfl) rfl rfl ?_
      refine o_nil0 rfl ?_
      refine c_seq ?_
      refine c_seq ?_
      refine c_region ?_
      refine o_T (y_fa fl_54_2 rfl) rfl ?_
      refine o_ld one_3 rfl (ms (ms m0)) (At.got (At.refl.comp Head.a_merge)) rfl ?_
      refine o_T (y_eql rfl rfl) rfl ?_
      refine o_nil1 44 rfl rfl ?_
      obtain ⟨f2, F2, hF3, hj2, hF4⟩ := fl2 hm
      refine c_joinP (n := 0) (fun sh G => sh = [] ∧ G = [] ∧ F2 () = some (rc1, rc2, rz1, rz2, rz3, rz4, rz5)) (s_take (s_take (s_take (s_take (s_take (s_take (s_take (s_take (s_take (s_take (s_take (s_take (s_take s_nil))))))))))))) .z (fun _ _ h => h) ?_ ?_
      · have hm := hj2
        refine c_cond rfl (fun h4 => ?_) (fun h4 => ?_)
        · have hm := cd_t h4 hm
          refine c_seq ?_
          refine c_region ?_
          refine o_T (y_move rfl) rfl ?_
          refine o_T (y_move rfl) rfl ?_
          obtain ⟨l2, hx5, hm⟩ := bd1 hm
          refine o_callC en_128 rfl (s_take (s_take (s_skip (s_skip (s_skip (s_take (s_take (s_take (s_take (s_take (s_take (s_take s_nil)))))))))))) (t128 ho1 ho2 ho3 ho4 hx5) rfl (fun u4 S4 hR4 => ?_)
          obtain ⟨v6, g6, rfl, rfl, ho6⟩ := hR4
          refine o_rest ?_
          refine o_L (y_assign rfl) rfl rfl ?_
          refine o_nil0 rfl ?_
          refine c_seq ?_
          refine c_region ?_
          refine o_T (y_move rfl) rfl ?_
          refine o_T (y_move rfl) rfl ?_
          obtain ⟨c4, hx6, hm⟩ := bd1 hm
          refine o_callC en_96 rfl s_nil (t96 (ho5.rd.mono (fun _ hz => (ms (ms (ms (ms (ms (ms (ms (ms (ms (ms (ms (ms (mg hz))))))))))))))) (ho6.rd.mono (fun _ hz => (ms (ms (ms (ms (ms (ms (ms (ms (ms (mg hz)))))))))))) hx6) rfl (fun u5 S5 hR5 => ?_)
          obtain ⟨rfl, rfl⟩ := hR5
          refine o_rest ?_
          refine o_nil1 50 rfl rfl ?_
          refine c_cond rfl (fun h5 => ?_) (fun h5 => ?_)
          · have hm := cd_t h5 hm
            refine c_seq ?_
            refine c_region ?_
            refine o_L (y_assign rfl) rfl rfl ?_
            refine o_L (y_assign rfl) rfl rfl ?_
            refine o_nil0 rfl ?_
            refine c_ret ?_
            obtain ⟨q3, hq2, hm⟩ := bd hm
            have hm := fl_ret hm hF4
            have hm := hq2.trans hm
            obtain ⟨rfl, rfl, rfl, rfl, rfl, rfl, rfl⟩ := pr7 hm
            refine fun aX wX heX hsX => ret2 Tryz.results55 heX rfl rfl (s_take (s_take (s_take (s_take (s_take (s_take (s_take (s_take (s_take (s_skip (s_skip (s_take (s_skip (s_take s_nil)))))))))))))) ?_
            exact ⟨v1, _, v2, _, v3, _, v4, _, rfl, rfl, ho1, ho2, ho3, ho4⟩
          · have hm := cd_f h5 hm
            refine c_skip ?_
            have hm := fl_nx hm hF4
            exact ⟨_, _, ⟨rfl, rfl, hm⟩, trivial, ⟨rfl, rfl⟩, _, (s_take (s_take (s_get (ks (ks (ks (ks (ks (ks (ks (ks k0)))))))) (s_get (ks (ks (ks (ks (ks (ks (ks (ks k0)))))))) (s_get (ks (ks (ks (ks (ks (ks (ks (ks k0)))))))) (s_take (s_take (s_take (s_take (s_take (s_take (s_take (s_skip (s_take s_nil))))))))))))))⟩
        · have hm := cd_f h4 hm
          refine c_skip ?_
          have hm := fl_nx hm hF4
          exact ⟨_, _, ⟨rfl, rfl, hm⟩, trivial, ⟨rfl, rfl⟩, _, (s_take (s_take (s_take (s_take (s_take (s_take (s_take (s_take (s_take (s_take (s_take (s_take (s_take s_nil)))))))))))))⟩
      · rintro sh G ⟨rfl, rfl, hm⟩
        subst hF3
        refine c_seq ?_
        refine c_region ?_
        have ho7 : Own rInt (.slice none 0 0) [] [] := Own.nil
        refine o_emp ?_
        refine o_L (y_assign rfl) rfl rfl ?_
        refine o_nil0 rfl ?_
        refine c_seq ?_
        refine c_seq ?_
        refine c_region ?_
        refine o_T (y_move rfl) rfl ?_
        refine o_T (y_neq rfl rfl) rfl ?_
        refine o_nil1 52 rfl rfl ?_
        obtain ⟨l3, hj3, hm⟩ := bd1 hm
        refine c_joinP (n := 1) (fun sh G => ∃ (v7 : Value), ∃ (g7 : List Chunk), sh = [(11, v7)] ∧ G = [g7] ∧ Own rInt v7 l3 g7) (s_take (s_take (s_take (s_take (s_take (s_take (s_take (s_take (s_take (s_take (s_take (s_take (s_take (s_take s_nil)))))))))))))) (.s .z) (fun _ _ h => h) ?_ ?_
        · have hm := hj3
          refine c_cond rfl (fun h6 => ?_) (fun h6 => ?_)
          · have hm := cd_t h6 hm
            refine c_region ?_
            refine o_T (y_move rfl) rfl ?_
            refine o_T (y_move rfl) rfl ?_
            refine o_bs1 sz_65 rfl rfl rfl rfl rfl rfl (fun b9 => ?_)
            obtain ⟨l4, hx7, hm⟩ := bd hm
            refine o_appR (R := rInt) (a := c3) sz_65 rfl rfl rfl rfl ho7 rfl hx7 (Sel.e (s_get (ks k0) (s_take s_nil))) rfl (fun v8 g8 ho9 => ?_)
            refine o_L (y_assign rfl) rfl rfl ?_
            refine o_nil0 rfl ?_
            obtain rfl := p1 hm
            exact ⟨_, _, ⟨v8, _, rfl, rfl, ho9⟩, ⟨rfl, trivial⟩, ⟨rfl, rfl⟩, _, (s_take (s_take (s_take (s_take (s_take (s_take (s_take (s_take (s_take (s_take (s_take (s_take (s_take (s_take s_nil))))))))))))))⟩
          · have hm := cd_f h6 hm
            refine c_skip ?_
            obtain rfl := p1 hm
            exact ⟨_, _, ⟨(.slice none 0 0), _, rfl, rfl, ho7⟩, ⟨rfl, trivial⟩, ⟨rfl, rfl⟩, _, (s_take (s_take (s_take (s_take (s_take (s_take (s_take (s_take (s_take (s_take (s_take (s_take (s_take (s_take s_nil))))))))))))))⟩
        · rintro sh G ⟨v7, g7, rfl, rfl, ho8⟩
          refine c_seq ?_
          refine c_seq ?_
          refine c_region ?_
          refine o_T (y_fa fl_54_2 rfl) rfl ?_
          refine o_ld one_3 rfl (ms (ms (ms m0))) (At.got (At.refl.comp Head.a_merge)) rfl ?_
          refine o_T (y_neq rfl rfl) rfl ?_
          refine o_nil1 59 rfl rfl ?_
          obtain ⟨l5, hj4, hm⟩ := bd1 hm
          refine c_joinP (n := 1) (fun sh G => ∃ (v9 : Value), ∃ (g9 : List Chunk), sh = [(11, v9)] ∧ G = [g9] ∧ Own rInt v9 l5 g9) (s_take (s_take (s_take (s_take (s_take (s_take (s_take (s_take (s_take (s_take (s_take (s_take (s_take (s_take s_nil)))))))))))))) (.s .z) (fun _ _ h => h) ?_ ?_
          · have hm := hj4
            refine c_cond rfl (fun h7 => ?_) (fun h7 => ?_)
            · have hm := cd_t h7 hm
              refine c_region ?_
              refine o_T (y_move rfl) rfl ?_
              refine o_T (y_fa fl_54_2 rfl) rfl ?_
              refine o_ld one_3 rfl (ms (ms (ms m0))) (At.got (At.refl.comp Head.a_merge)) rfl ?_
              refine o_bs1 sz_65 rfl rfl rfl rfl rfl rfl (fun b10 => ?_)
              obtain ⟨l6, hx8, hm⟩ := bd hm
              refine o_appR (R := rInt) (a := z2.merge) sz_65 rfl rfl rfl rfl ho8 rfl hx8 (Sel.e (s_get (ks k0) (s_take s_nil))) rfl (fun v10 g10 ho11 => ?_)
              refine o_L (y_assign rfl) rfl rfl ?_
              refine o_nil0 rfl ?_
              obtain rfl := p1 hm
              exact ⟨_, _, ⟨v10, _, rfl, rfl, ho11⟩, ⟨rfl, trivial⟩, ⟨rfl, rfl⟩, _, (s_take (s_take (s_take (s_take (s_take (s_take (s_take (s_take (s_take (s_take (s_take (s_take (s_take (s_take s_nil))))))))))))))⟩
            · have hm := cd_f h7 hm
              refine c_skip ?_
              obtain rfl := p1 hm
              exact ⟨_, _, ⟨v7, _, rfl, rfl, ho8⟩, ⟨rfl, trivial⟩, ⟨rfl, rfl⟩, _, (s_take (s_take (s_take (s_take (s_take (s_take (s_take (s_take (s_take (s_take (s_take (s_take (s_take (s_take s_nil))))))))))))))⟩
          · rintro sh G ⟨v9, g9, rfl, rfl, ho10⟩
            refine c_seq ?_
            refine c_region ?_
            refine o_T (y_move rfl) rfl ?_
            refine o_T (y_nilck rfl) rfl ?_
            refine o_T (y_fa fl_130_0 rfl) rfl ?_
            refine o_ld one_30 rfl (ms m0) (At.got (At.refl.comp RepoR.a_g)) rfl ?_
            refine o_T (y_move rfl) rfl ?_
            refine o_T (y_move rfl) rfl ?_
            refine o_T (y_move rfl) rfl ?_
            obtain ⟨c5, c6, z3, z4, z5, z6, hx9, hm⟩ := bd6 hm
            refine o_callC en_129 rfl (s_skip (s_skip (s_take (s_skip (s_skip (s_skip (s_take (s_take (s_take (s_take (s_take (s_take (s_take s_nil))))))))))))) (t129 ho1 ho2 ho3 ho4 (ho5.rd.mono (fun _ hz => (ms (ms (ms (ms (mg hz))))))) (ho10.rd.mono (fun _ hz => (mg hz))) hx9) rfl (fun u6 S6 hR6 => ?_)
            obtain ⟨v11, g11, v12, g12, v13, g13, v14, g14, rfl, rfl, ho12, ho13, ho14, ho15⟩ := hR6
            refine o_rest ?_
            refine o_T (y_move rfl) rfl ?_
            refine o_T (y_extract rfl rfl) rfl ?_
            refine o_T (y_extract rfl rfl) rfl ?_
            refine o_L (y_assign rfl) rfl rfl ?_
            refine o_L (y_assign rfl) rfl rfl ?_
            refine o_nil0 rfl ?_
            refine c_seq ?_
            refine c_seq ?_
            refine c_region ?_
            refine o_T (y_move rfl) rfl ?_
            refine o_T (y_eql rfl rfl) rfl ?_
            refine o_nil1 77 rfl rfl ?_
            obtain ⟨c7, z7, hj5, hm⟩ := bd2 hm
            refine c_joinP (n := 1) (fun sh G => sh = [(13, .int .i64 c7)] ∧ G = [[(b2, .cells (Graph.enc (.pointer (some ⟨b3, 0, none⟩)) z7).toArray 179 (0, 0))]]) (s_take (s_take (s_take (s_take (s_take (s_take (s_take (s_take (s_skip (s_take (s_skip (s_take (s_skip (s_take s_nil)))))))))))))) (.s .z) (fun _ _ h => h) ?_ ?_
            · have hm := hj5
              refine c_cond rfl (fun h8 => ?_) (fun h8 => ?_)
              · have hm := cd_t h8 hm
                refine c_region ?_
                refine o_T (y_move rfl) rfl ?_
                refine o_lda ag_54 rfl (ms (ms (ms (ms (ms (ms (ms (ms (ms (ms m0)))))))))) (At.exs At.refl (Head.len _)) (At.fits At.refl (Head.len _)) rfl ?_
                refine o_T (y_move rfl) rfl ?_
                obtain ⟨c8, z8, hx10, hm⟩ := bd2 hm
                refine o_callC en_130 rfl (s_get (ks (ks (ks (ks (ks (ks (ks (ks (ks k0))))))))) (s_take s_nil)) (t130 hx10) rfl (fun u7 S7 hR7 => ?_)
                obtain ⟨rfl, rfl⟩ := hR7
                refine o_rest ?_
                refine o_L (y_assign rfl) rfl rfl ?_
                refine o_nil0 rfl ?_
                obtain ⟨rfl, rfl⟩ := pr2 hm
                exact ⟨_, _, ⟨rfl, rfl⟩, ⟨rfl, trivial⟩, ⟨rfl, rfl⟩, _, (s_get (ks k0) (s_get (ks k0) (s_get (ks k0) (s_get (ks k0) (s_get (ks k0) (s_get (ks k0) (s_get (ks k0) (s_get (ks k0) (s_take (s_skip (s_skip (s_take (s_skip (s_take s_nil))))))))))))))⟩
              · have hm := cd_f h8 hm
                refine c_skip ?_
                obtain ⟨rfl, rfl⟩ := pr2 hm
                exact ⟨_, _, ⟨rfl, rfl⟩, ⟨rfl, trivial⟩, ⟨rfl, rfl⟩, _, (s_take (s_take (s_take (s_take (s_take (s_take (s_take (s_take (s_skip (s_take (s_skip (s_take (s_skip (s_take s_nil))))))))))))))⟩
            · rintro sh G ⟨rfl, rfl⟩
              refine c_seq ?_
              refine c_seq ?_
              refine c_region ?_
              refine o_T (y_move rfl) rfl ?_
              refine o_T (y_neq rfl rfl) rfl ?_
              refine o_nil1 83 rfl rfl ?_
              refine c_cond rfl (fun h9 => ?_) (fun h9 => ?_)
              · have hm := cd_t h9 hm
                refine c_seq ?_
                refine c_region ?_
                refine o_T (y_move rfl) rfl ?_
                refine o_T (y_move rfl) rfl ?_
                obtain ⟨c9, z9, z10, z11, z12, hx11, hm⟩ := bd5 hm
                refine o_callC en_131 rfl (s_get (ks (ks (ks (ks (ks (ks (ks (ks k0)))))))) (s_take (s_take (s_take (s_take (s_take (s_take (s_take (s_take (s_take s_nil)))))))))) (t131 ho12 ho13 ho14 ho15 hx11) rfl (fun u8 S8 hR8 => ?_)
                obtain ⟨rfl, rfl⟩ := hR8
                refine o_rest ?_
                refine o_L (y_assign rfl) rfl rfl ?_
                refine o_L (y_assign rfl) rfl rfl ?_
                refine o_nil0 rfl ?_
                refine c_ret ?_
                obtain ⟨rfl, rfl, rfl, rfl, rfl, rfl, rfl⟩ := pr7 hm
                refine fun aX wX heX hsX => ret2 Tryz.results55 heX rfl rfl (s_take (s_take (s_take (s_take (s_take (s_take (s_take (s_take (s_take (s_take (s_take s_nil))))))))))) ?_
                exact ⟨v11, _, v12, _, v13, _, v14, _, rfl, rfl, ho12, ho13, ho14, ho15⟩
              · have hm := cd_f h9 hm
                refine c_skip ?_
                refine c_seq ?_
                refine c_region ?_
                refine o_T (y_move rfl) rfl ?_
                obtain ⟨c10, z13, z14, z15, z16, z17, hx12, hm⟩ := bd6 hm
                refine o_callC en_132 rfl (s_get (ks (ks (ks (ks (ks (ks (ks (ks k0)))))))) (s_take (s_take (s_take (s_take (s_take (s_take (s_take (s_take (s_take s_nil)))))))))) (t132 ho12 ho13 ho14 ho15 hx12) rfl (fun u9 S9 hR9 => ?_)
                obtain ⟨v15, g15, v16, g16, v17, g17, v18, g18, rfl, rfl, ho16, ho17, ho18, ho19⟩ := hR9
                refine o_rest ?_
                refine o_L (y_assign rfl) rfl rfl ?_
                refine o_nil0 rfl ?_
                refine c_seq ?_
                refine c_seq ?_
                refine c_region ?_
                refine o_T (y_move rfl) rfl ?_
                refine o_T (y_neq rfl rfl) rfl ?_
                refine o_nil1 90 rfl rfl ?_
                refine c_cond rfl (fun h10 => ?_) (fun h10 => ?_)
                · have hm := cd_t h10 hm
                  refine c_seq ?_
                  refine c_region ?_
                  refine o_T (y_move rfl) rfl ?_
                  refine o_L (y_assign rfl) rfl rfl ?_
                  refine o_L (y_assign rfl) rfl rfl ?_
                  refine o_nil0 rfl ?_
                  refine c_ret ?_
                  obtain ⟨rfl, rfl, rfl, rfl, rfl, rfl, rfl⟩ := pr7 hm
                  refine fun aX wX heX hsX => ret2 Tryz.results55 heX rfl rfl (s_take (s_take (s_take (s_take (s_take (s_take (s_take (s_take (s_take (s_take (s_take s_nil))))))))))) ?_
                  exact ⟨v15, _, v16, _, v17, _, v18, _, rfl, rfl, ho16, ho17, ho18, ho19⟩
                · have hm := cd_f h10 hm
                  refine c_skip ?_
                  refine c_seq ?_
                  refine c_region ?_
                  refine o_T (y_move rfl) rfl ?_
                  refine o_L (y_assign rfl) rfl rfl ?_
                  refine o_L (y_assign rfl) rfl rfl ?_
                  refine o_nil0 rfl ?_
                  refine c_ret ?_
                  obtain ⟨rfl, rfl, rfl, rfl, rfl, rfl, rfl⟩ := pr7 hm
                  refine fun aX wX heX hsX => ret2 Tryz.results55 heX rfl rfl (s_take (s_take (s_take (s_take (s_take (s_take (s_take (s_take (s_take (s_take (s_take s_nil))))))))))) ?_
                  exact ⟨v15, _, v16, _, v17, _, v18, _, rfl, rfl, ho16, ho17, ho18, ho19⟩
end Go.Proofs.Qxb6500350aGreat
