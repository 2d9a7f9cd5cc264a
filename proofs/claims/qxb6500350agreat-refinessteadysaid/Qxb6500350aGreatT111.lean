/- MADE BY PROGRAM (tools350/mir.py): mirror and walk. -/
import Derived.Test.Qxb6500350aGreatF2
import Derived.Test.Qxb6500350aGreatT178
import Derived.Test.Qxb6500350aGreatT152
import Derived.Test.Qxb6500350aGreatT122
import Derived.Test.Qxb6500350aGreatT172
import Derived.Test.Qxb6500350aGreatT96
import Derived.Test.Qxb6500350aGreatT126
set_option linter.unusedVariables false
set_option linter.unusedSimpArgs false
set_option maxRecDepth 20000
set_option maxHeartbeats 4000000
namespace Go.Proofs.Qxb6500350aGreat
open Go.Eng

/- (*repo.Repo).Check -/
def m111_w1 (n : Nat) (l1 : List File) (mm : Nat) : Int → Option (Flow (Bool) (Int)) := it1 (fun lp1 c2 =>
cond (decide (c2 < (l1.length : Int))) (
Option.bind (ixL l1 c2) fun x1 =>
cond (decide (¬ (x1.mode = 0))) (
Option.bind (some false) fun q2 => some (.ret q2)) (
lp1 (wi (c2 + 1)))) (
some (.nx c2))) mm
def m111_w2 (n : Nat) (l2 : List File) (z2 : Head) (mm : Nat) : Int → Option (Flow (Bool) (Int)) := it1 (fun lp2 c5 =>
cond (decide (c5 < (l2.length : Int))) (
ob1 (Option.bind (ixL l2 c5) fun x3 =>
cond (decide (x3.mode = 1)) (some ((decide (z2.merge = 0)))) (some (false))) fun c7 =>
cond c7 (
Option.bind (some false) fun q3 => some (.ret q3)) (
lp2 (wi (c5 + 1)))) (
some (.nx c5))) mm
def m111 (n : Nat) (r : RepoR) (g : Graph) (t : Trees) (s : Store) (d : Dev) (x : Index) : Option (Bool) :=
cond ((decide (r.n < 0)) || (decide ((8 : Int) < r.n))) (
some false) (
ob1 (m178 n r) fun l1 =>
ob1 (m152 n l1) fun c1 =>
cond (decide (¬ (c1 = 0))) (
some false) (
flow (m111_w1 n l1 n 0) some (un1 fun c3 =>
ob1 (m122 n x) fun l2 =>
ob1 (m172 n g t s d) fun l3 =>
ob1 (m96 n l2 l3) fun c4 =>
cond (!c4) (
some false) (
ob1 (m126 n g) fun x2 =>
nm (x2 : Head) fun z2 =>
flow (m111_w2 n l2 z2 n 0) some (un1 fun c6 =>
some true)))))
theorem t111 {n : Nat} {C : List Chunk} {rc1 : Bool} {b1 : Nat} {r : RepoR} {b2 : Nat} {g : Graph} {b3 : Nat} {t : Trees} {b4 : Nat} {s : Store} {b5 : Nat} {d : Dev} {v1 : Value} {g1 : List Chunk} {v2 : Value} {g2 : List Chunk} {v3 : Value} {g3 : List Chunk} {v4 : Value} {g4 : List Chunk} {b6 : Nat} {x : Index} {q1 : Option Addr} (ho1 : Own rByte v1 d.blk g1) (ho2 : Own rByte v2 d.base g2) (ho3 : Own rInt v3 d.at_ g3) (ho4 : Own rByte v4 d.data g4)  (hm : m111 n r g t s d x = some rc1) : Trip Tryz.prog 111 #[.pointer (some ⟨b1, 0, none⟩)] ([[(b1, .cells (RepoR.enc (.pointer (some ⟨b2, 0, none⟩)) (.pointer (some ⟨b6, 0, none⟩)) ((.pointer q1)) r).toArray 130 (0, 0))], [(b2, .cells (Graph.enc (.pointer (some ⟨b3, 0, none⟩)) g).toArray 179 (0, 0))], [(b3, .cells (Trees.enc (.pointer (some ⟨b4, 0, none⟩)) t).toArray 169 (0, 0))], [(b4, .cells (Store.enc (.pointer (some ⟨b5, 0, none⟩)) s).toArray 126 (0, 0))], [(b5, .cells (Dev.enc (v1) (v2) (v3) (v4) d).toArray 85 (0, 0))], g1, g2, g3, g4, [(b6, .cells (Index.enc x).toArray 184 (0, 0))]] ++ [C]) (fun u S' => .bool rc1 = u ∧ S' = [[(b1, .cells (RepoR.enc (.pointer (some ⟨b2, 0, none⟩)) (.pointer (some ⟨b6, 0, none⟩)) ((.pointer q1)) r).toArray 130 (0, 0))], [(b2, .cells (Graph.enc (.pointer (some ⟨b3, 0, none⟩)) g).toArray 179 (0, 0))], [(b3, .cells (Trees.enc (.pointer (some ⟨b4, 0, none⟩)) t).toArray 169 (0, 0))], [(b4, .cells (Store.enc (.pointer (some ⟨b5, 0, none⟩)) s).toArray 126 (0, 0))], [(b5, .cells (Dev.enc (v1) (v2) (v3) (v4) d).toArray 85 (0, 0))], g1, g2, g3, g4, [(b6, .cells (Index.enc x).toArray 184 (0, 0))]] ++ [C]) := by
  refine fn_entry (args := [.pointer (some ⟨b1, 0, none⟩)]) Tryz.func111 rfl Tryz.ntmps111 rfl (fun w0 => ?_)
  refine c_seq ?_
  refine c_region ?_
  refine o_L (y_assign rfl) rfl rfl ?_
  refine o_nil0 rfl ?_
  refine c_seq ?_
  refine c_seq ?_
  refine c_joinP (n := 0) (fun sh G => sh = [(20, .bool ((decide (r.n < 0)) || (decide ((8 : Int) < r.n))))] ∧ G = []) Sel.all' .z (fun _ _ h => h) ?_ ?_
  · skip
    refine c_region ?_
    refine o_T (y_move rfl) rfl ?_
    refine o_T (y_nilck rfl) rfl ?_
    refine o_T (y_fa fl_130_4 rfl) rfl ?_
    refine o_ld one_3 rfl m0 (At.got (At.refl.comp RepoR.a_n)) rfl ?_
    refine o_T (y_lss rfl rfl) rfl ?_
    refine o_T (y_move rfl) rfl ?_
    refine o_split 14 rfl (fun h1 => ?_) (fun h1 => ?_)
    · skip
      refine o_pass rfl rfl rfl rfl rfl ?_
      refine o_pass rfl rfl rfl rfl rfl ?_
      refine o_pass rfl rfl rfl rfl rfl ?_
      refine o_pass rfl rfl rfl rfl rfl ?_
      refine o_pass rfl rfl rfl rfl rfl ?_
      refine o_T (y_pickT rfl rfl) rfl ?_
      refine o_nil1 20 rfl rfl ?_
      refine ⟨_, _, ⟨rfl, rfl⟩, ⟨by first | rfl | exact gtb rfl (by simp only [h1, Bool.true_and, Bool.false_and, Bool.true_or, Bool.false_or, Bool.and_true, Bool.and_false, Bool.or_true, Bool.or_false, Bool.not_true, Bool.not_false]), trivial⟩, ⟨rfl, rfl⟩, _, (s_take (s_take (s_take (s_take (s_take (s_take (s_take (s_take (s_take (s_take (s_take s_nil)))))))))))⟩
    · skip
      refine o_take rfl rfl rfl ?_
      refine o_T (y_move rfl) rfl ?_
      refine o_take rfl rfl rfl ?_
      refine o_T (y_nilck rfl) rfl ?_
      refine o_take rfl rfl rfl ?_
      refine o_T (y_fa fl_130_4 rfl) rfl ?_
      refine o_take rfl rfl rfl ?_
      refine o_ld one_3 rfl m0 (At.got (At.refl.comp RepoR.a_n)) rfl ?_
      refine o_take rfl rfl rfl ?_
      refine o_T (y_gtr rfl rfl) rfl ?_
      refine o_T (y_pickF rfl rfl) rfl ?_
      refine o_nil1 20 rfl rfl ?_
      refine ⟨_, _, ⟨rfl, rfl⟩, ⟨by first | rfl | exact gtb rfl (by simp only [h1, Bool.true_and, Bool.false_and, Bool.true_or, Bool.false_or, Bool.and_true, Bool.and_false, Bool.or_true, Bool.or_false, Bool.not_true, Bool.not_false]), trivial⟩, ⟨rfl, rfl⟩, _, (s_take (s_take (s_take (s_take (s_take (s_take (s_take (s_take (s_take (s_take (s_take s_nil)))))))))))⟩
  · rintro sh G ⟨rfl, rfl⟩
    refine c_cond rfl (fun h2 => ?_) (fun h2 => ?_)
    · have hm := cd_t h2 hm
      refine c_seq ?_
      refine c_region ?_
      refine o_L (y_assign rfl) rfl rfl ?_
      refine o_nil0 rfl ?_
      refine c_ret ?_
      obtain rfl := p1 hm
      refine fun aX wX heX hsX => ret1 Tryz.results111 heX rfl (s_take (s_take (s_take (s_take (s_take (s_take (s_take (s_take (s_take (s_take (s_take s_nil))))))))))) ?_
      exact ⟨rfl, rfl⟩
    · have hm := cd_f h2 hm
      refine c_skip ?_
      refine c_seq ?_
      refine c_region ?_
      refine o_T (y_move rfl) rfl ?_
      obtain ⟨l1, hx1, hm⟩ := bd1 hm
      refine o_callC en_178 rfl (s_take s_nil) (t178 hx1) rfl (fun u1 S1 hR1 => ?_)
      obtain ⟨v5, g5, rfl, rfl, ho5⟩ := hR1
      refine o_rest ?_
      refine o_L (y_assign rfl) rfl rfl ?_
      refine o_nil0 rfl ?_
      refine c_seq ?_
      refine c_seq ?_
      refine c_region ?_
      refine o_T (y_move rfl) rfl ?_
      obtain ⟨c1, hx2, hm⟩ := bd1 hm
      refine o_callC en_152 rfl s_nil (t152 (ho5.rd.mono (fun _ hz => (ms (mg hz)))) hx2) rfl (fun u2 S2 hR2 => ?_)
      obtain ⟨rfl, rfl⟩ := hR2
      refine o_rest ?_
      refine o_T (y_neq rfl rfl) rfl ?_
      refine o_nil1 25 rfl rfl ?_
      refine c_cond rfl (fun h3 => ?_) (fun h3 => ?_)
      · have hm := cd_t h3 hm
        refine c_seq ?_
        refine c_region ?_
        refine o_L (y_assign rfl) rfl rfl ?_
        refine o_nil0 rfl ?_
        refine c_ret ?_
        obtain rfl := p1 hm
        refine fun aX wX heX hsX => ret1 Tryz.results111 heX rfl (s_take (s_skip (s_take (s_take (s_take (s_take (s_take (s_take (s_take (s_take (s_take (s_take s_nil)))))))))))) ?_
        exact ⟨rfl, rfl⟩
      · have hm := cd_f h3 hm
        refine c_skip ?_
        refine c_seq ?_
        refine c_seq ?_
        refine c_region ?_
        refine o_L (y_assign rfl) rfl rfl ?_
        refine o_nil0 rfl ?_
        obtain ⟨f1, F1, hF1, hj1, hF2⟩ := fl2 hm
        refine c_joinP (n := 0) (fun sh G => ∃ (c3 : Int), sh = [(4, .int .i64 c3)] ∧ G = [] ∧ F1 c3 = some rc1) (s_take (s_take (s_take (s_take (s_take (s_take (s_take (s_take (s_take (s_take (s_take (s_take s_nil)))))))))))) .z (fun _ _ h => h) ?_ ?_
        · skip
          refine c_block ?_
          refine c_loopP (n := 0) (fun mm sh G => ∃ (c2 : Int), sh = [(4, .int .i64 c2)] ∧ G = [] ∧ m111_w1 n l1 mm c2 = some f1) n (s_take (s_take (s_take (s_take (s_take (s_take (s_take (s_take (s_take (s_take (s_take (s_take s_nil)))))))))))) .z ⟨_, _, ⟨_, rfl, rfl, hj1⟩, ⟨rfl, trivial⟩, _, (s_take (s_take (s_take (s_take (s_take (s_take (s_take (s_take (s_take (s_take (s_take (s_take s_nil))))))))))))⟩ ?_
          rintro mm sh G ⟨c2, rfl, rfl, hm⟩
          obtain ⟨mm1, rfl, hm⟩ := it1_s hm
          refine c_seq ?_
          refine c_seq ?_
          refine c_region ?_
          refine o_T (y_move rfl) rfl ?_
          refine o_T (y_move rfl) rfl ?_
          refine o_T (y_lenR ho5.rd Tryz.underlying57 rfl) rfl ?_
          refine o_T (y_lss rfl rfl) rfl ?_
          refine o_nil1 29 rfl rfl ?_
          refine c_cond rfl (fun h4 => ?_) (fun h4 => ?_)
          · have hm := cd_t h4 hm
            refine c_skip ?_
            refine c_seq ?_
            refine c_block ?_
            refine c_seq ?_
            refine c_region ?_
            refine o_T (y_move rfl) rfl ?_
            refine o_T (y_move rfl) rfl ?_
            obtain ⟨x1, hx3, hm⟩ := bd hm
            obtain ⟨b7, w1, cs1, y1, z1, vs1, hc1, ha1, hr1, hy1⟩ := ho5.rd.ix hx3
            obtain rfl : vs1 = File.enc x1 := hr1
            refine o_T (hy1 sl_57 rfl rfl rfl) rfl ?_
            refine o_T (y_fa fl_71_2 rfl) rfl ?_
            refine o_ld one_3 rfl (ms (mg hc1)) (At.getA (ha1.comp File.a_mode)) rfl ?_
            refine o_T (y_neq rfl rfl) rfl ?_
            refine o_nil1 37 rfl rfl ?_
            refine c_cond rfl (fun h5 => ?_) (fun h5 => ?_)
            · have hm := cd_t h5 hm
              refine c_seq ?_
              refine c_region ?_
              refine o_L (y_assign rfl) rfl rfl ?_
              refine o_nil0 rfl ?_
              refine c_ret ?_
              obtain ⟨q2, hq1, hm⟩ := bd hm
              have hm := fl_ret hm hF2
              have hm := hq1.trans hm
              obtain rfl := p1 hm
              refine fun aX wX heX hsX => ret1 Tryz.results111 heX rfl (s_take (s_skip (s_take (s_take (s_take (s_take (s_take (s_take (s_take (s_take (s_take (s_take s_nil)))))))))))) ?_
              exact ⟨rfl, rfl⟩
            · have hm := cd_f h5 hm
              refine c_skip ?_
              refine c_region ?_
              refine o_T (y_move rfl) rfl ?_
              refine o_T (y_add rfl rfl rfl) rfl ?_
              refine o_L (y_assign rfl) rfl rfl ?_
              refine o_nil0 rfl ?_
              exact ⟨mm1, Nat.lt_succ_self _, _, _, ⟨_, rfl, rfl, hm⟩, ⟨rfl, trivial⟩, ⟨rfl, rfl⟩, _, (s_take (s_take (s_take (s_take (s_take (s_take (s_take (s_take (s_take (s_take (s_take (s_take s_nil))))))))))))⟩
          · have hm := cd_f h4 hm
            refine c_exit ?_
            have hm := fl_nx hm hF2
            exact ⟨_, _, ⟨_, rfl, rfl, hm⟩, ⟨rfl, trivial⟩, ⟨rfl, rfl⟩, _, (s_take (s_take (s_take (s_take (s_take (s_take (s_take (s_take (s_take (s_take (s_take (s_take s_nil))))))))))))⟩
        · rintro sh G ⟨c3, rfl, rfl, hm⟩
          subst hF1
          refine c_seq ?_
          refine c_region ?_
          refine o_T (y_move rfl) rfl ?_
          refine o_T (y_nilck rfl) rfl ?_
          refine o_T (y_fa fl_130_1 rfl) rfl ?_
          refine o_ld one_31 rfl m0 (At.got (At.refl.comp RepoR.a_x)) rfl ?_
          obtain ⟨l2, hx4, hm⟩ := bd1 hm
          refine o_callC en_122 rfl (s_skip (s_skip (s_skip (s_skip (s_skip (s_skip (s_skip (s_skip (s_skip (s_skip (s_take s_nil))))))))))) (t122 hx4) rfl (fun u3 S3 hR3 => ?_)
          obtain ⟨v6, g6, rfl, rfl, ho6⟩ := hR3
          refine o_rest ?_
          refine o_L (y_assign rfl) rfl rfl ?_
          refine o_nil0 rfl ?_
          refine c_seq ?_
          refine c_region ?_
          refine o_T (y_move rfl) rfl ?_
          refine o_T (y_nilck rfl) rfl ?_
          refine o_T (y_fa fl_130_0 rfl) rfl ?_
          refine o_ld one_30 rfl (ms (ms m0)) (At.got (At.refl.comp RepoR.a_g)) rfl ?_
          obtain ⟨l3, hx5, hm⟩ := bd1 hm
          refine o_callC en_172 rfl (s_skip (s_skip (s_skip (s_skip (s_take (s_take (s_take (s_take (s_take (s_take (s_take (s_take s_nil)))))))))))) (t172 ho1 ho2 ho3 ho4 hx5) rfl (fun u4 S4 hR4 => ?_)
          obtain ⟨v7, g7, rfl, rfl, ho7⟩ := hR4
          refine o_rest ?_
          refine o_L (y_assign rfl) rfl rfl ?_
          refine o_nil0 rfl ?_
          refine c_seq ?_
          refine c_seq ?_
          refine c_region ?_
          refine o_T (y_move rfl) rfl ?_
          refine o_T (y_move rfl) rfl ?_
          obtain ⟨c4, hx6, hm⟩ := bd1 hm
          refine o_callC en_96 rfl s_nil (t96 (ho6.rd.mono (fun _ hz => (ms (ms (ms (ms (ms (ms (ms (ms (ms (ms (mg hz))))))))))))) (ho7.rd.mono (fun _ hz => (ms (ms (ms (ms (ms (ms (ms (ms (mg hz))))))))))) hx6) rfl (fun u5 S5 hR5 => ?_)
          obtain ⟨rfl, rfl⟩ := hR5
          refine o_rest ?_
          refine o_T (y_not rfl) rfl ?_
          refine o_nil1 51 rfl rfl ?_
          refine c_cond rfl (fun h6 => ?_) (fun h6 => ?_)
          · have hm := cd_t h6 hm
            refine c_seq ?_
            refine c_region ?_
            refine o_L (y_assign rfl) rfl rfl ?_
            refine o_nil0 rfl ?_
            refine c_ret ?_
            obtain rfl := p1 hm
            refine fun aX wX heX hsX => ret1 Tryz.results111 heX rfl (s_get (ks (ks (ks (ks (ks (ks (ks (ks (ks (ks (ks k0))))))))))) (s_take (s_take (s_take (s_take (s_take (s_take (s_take (s_take (s_skip (s_take (s_skip (s_skip (s_take s_nil)))))))))))))) ?_
            exact ⟨rfl, rfl⟩
          · have hm := cd_f h6 hm
            refine c_skip ?_
            refine c_seq ?_
            refine c_region ?_
            refine o_T (y_move rfl) rfl ?_
            refine o_T (y_nilck rfl) rfl ?_
            refine o_T (y_fa fl_130_0 rfl) rfl ?_
            refine o_ld one_30 rfl (ms (ms (ms (ms (ms (ms (ms (ms (ms (ms (ms m0))))))))))) (At.got (At.refl.comp RepoR.a_g)) rfl ?_
            obtain ⟨x2, hx7, hm⟩ := bd1 hm
            refine o_callC en_126 rfl (s_take s_nil) (t126 hx7) rfl (fun u6 S6 hR6 => ?_)
            obtain ⟨rfl, rfl⟩ := hR6
            refine o_rest ?_
            refine o_alloc ze_54 rfl rfl (fun b8 => ?_)
            obtain ⟨z2, hn1, hm⟩ := nm_s hm
            refine o_stNA ag_54 rfl rfl (Head.plain _) (Head.len _) (Upd.refl ((Head.len _).trans (Head.len _).symm)) r0 (show (Head.enc z2) = _ from by subst hn1; rfl) ?_
            refine o_nil0 rfl ?_
            refine c_seq ?_
            refine c_seq ?_
            refine c_region ?_
            refine o_L (y_assign rfl) rfl rfl ?_
            refine o_nil0 rfl ?_
            obtain ⟨f2, F2, hF3, hj2, hF4⟩ := fl2 hm
            refine c_joinP (n := 0) (fun sh G => ∃ (c6 : Int), sh = [(8, .int .i64 c6)] ∧ G = [] ∧ F2 c6 = some rc1) (s_take (s_take (s_take (s_take (s_take (s_take (s_take (s_take (s_take (s_skip (s_take (s_take (s_take (s_skip (s_take s_nil))))))))))))))) .z (fun _ _ h => h) ?_ ?_
            · skip
              refine c_block ?_
              refine c_loopP (n := 0) (fun mm sh G => ∃ (c5 : Int), sh = [(8, .int .i64 c5)] ∧ G = [] ∧ m111_w2 n l2 z2 mm c5 = some f2) n (s_take (s_take (s_take (s_take (s_take (s_take (s_take (s_take (s_take (s_skip (s_take (s_take (s_take (s_skip (s_take s_nil))))))))))))))) .z ⟨_, _, ⟨_, rfl, rfl, hj2⟩, ⟨rfl, trivial⟩, _, (s_take (s_take (s_take (s_take (s_take (s_take (s_take (s_take (s_take (s_skip (s_take (s_take (s_take (s_skip (s_take s_nil)))))))))))))))⟩ ?_
              rintro mm sh G ⟨c5, rfl, rfl, hm⟩
              obtain ⟨mm2, rfl, hm⟩ := it1_s hm
              refine c_seq ?_
              refine c_seq ?_
              refine c_region ?_
              refine o_T (y_move rfl) rfl ?_
              refine o_T (y_move rfl) rfl ?_
              refine o_T (y_lenR ho6.rd Tryz.underlying57 rfl) rfl ?_
              refine o_T (y_lss rfl rfl) rfl ?_
              refine o_nil1 60 rfl rfl ?_
              refine c_cond rfl (fun h7 => ?_) (fun h7 => ?_)
              · have hm := cd_t h7 hm
                refine c_skip ?_
                refine c_seq ?_
                refine c_block ?_
                refine c_seq ?_
                obtain ⟨c7, hj3, hm⟩ := bd1 hm
                refine c_joinP (n := 0) (fun sh G => sh = [(73, .bool c7)] ∧ G = []) Sel.all' .z (fun _ _ h => h) ?_ ?_
                · have hm := hj3
                  refine c_region ?_
                  refine o_T (y_move rfl) rfl ?_
                  refine o_T (y_move rfl) rfl ?_
                  obtain ⟨x3, hx8, hm⟩ := bd hm
                  obtain ⟨b9, w2, cs2, y2, z3, vs2, hc2, ha2, hr2, hy2⟩ := ho6.rd.ix hx8
                  obtain rfl : vs2 = File.enc x3 := hr2
                  refine o_T (hy2 sl_57 rfl rfl rfl) rfl ?_
                  refine o_T (y_fa fl_71_2 rfl) rfl ?_
                  refine o_ld one_3 rfl (ms (ms (ms (ms (ms (ms (ms (ms (ms (ms (mg hc2))))))))))) (At.getA (ha2.comp File.a_mode)) rfl ?_
                  refine o_T (y_eql rfl rfl) rfl ?_
                  refine o_T (y_move rfl) rfl ?_
                  refine o_split 69 rfl (fun h8 => ?_) (fun h8 => ?_)
                  · have hm := cd_t h8 hm
                    refine o_take rfl rfl rfl ?_
                    refine o_T (y_fa fl_54_2 rfl) rfl ?_
                    refine o_take rfl rfl rfl ?_
                    refine o_ld one_3 rfl m0 (At.got (At.refl.comp Head.a_merge)) rfl ?_
                    refine o_take rfl rfl rfl ?_
                    refine o_T (y_eql rfl rfl) rfl ?_
                    refine o_T (y_pickT rfl rfl) rfl ?_
                    refine o_nil1 73 rfl rfl ?_
                    obtain rfl := p1 hm
                    exact ⟨_, _, ⟨rfl, rfl⟩, ⟨rfl, trivial⟩, ⟨rfl, rfl⟩, _, (s_take (s_take (s_take (s_take (s_take (s_take (s_take (s_take (s_take (s_take (s_take (s_take (s_take s_nil)))))))))))))⟩
                  · have hm := cd_f h8 hm
                    refine o_pass rfl rfl rfl rfl rfl ?_
                    refine o_pass rfl rfl rfl rfl rfl ?_
                    refine o_pass rfl rfl rfl rfl rfl ?_
                    refine o_T (y_pickF rfl rfl) rfl ?_
                    refine o_nil1 73 rfl rfl ?_
                    obtain rfl := p1 hm
                    exact ⟨_, _, ⟨rfl, rfl⟩, ⟨rfl, trivial⟩, ⟨rfl, rfl⟩, _, (s_take (s_take (s_take (s_take (s_take (s_take (s_take (s_take (s_take (s_take (s_take (s_take (s_take s_nil)))))))))))))⟩
                · rintro sh G ⟨rfl, rfl⟩
                  refine c_cond rfl (fun h9 => ?_) (fun h9 => ?_)
                  · have hm := cd_t h9 hm
                    refine c_seq ?_
                    refine c_region ?_
                    refine o_L (y_assign rfl) rfl rfl ?_
                    refine o_nil0 rfl ?_
                    refine c_ret ?_
                    obtain ⟨q3, hq2, hm⟩ := bd hm
                    have hm := fl_ret hm hF4
                    have hm := hq2.trans hm
                    obtain rfl := p1 hm
                    refine fun aX wX heX hsX => ret1 Tryz.results111 heX rfl (s_skip (s_get (ks (ks (ks (ks (ks (ks (ks (ks (ks (ks k0)))))))))) (s_take (s_take (s_take (s_take (s_take (s_take (s_take (s_take (s_take (s_skip (s_take s_nil))))))))))))) ?_
                    exact ⟨rfl, rfl⟩
                  · have hm := cd_f h9 hm
                    refine c_skip ?_
                    refine c_region ?_
                    refine o_T (y_move rfl) rfl ?_
                    refine o_T (y_add rfl rfl rfl) rfl ?_
                    refine o_L (y_assign rfl) rfl rfl ?_
                    refine o_nil0 rfl ?_
                    exact ⟨mm2, Nat.lt_succ_self _, _, _, ⟨_, rfl, rfl, hm⟩, ⟨rfl, trivial⟩, ⟨rfl, rfl⟩, _, (s_take (s_take (s_take (s_take (s_take (s_take (s_take (s_take (s_take (s_take (s_take (s_take (s_take s_nil)))))))))))))⟩
              · have hm := cd_f h7 hm
                refine c_exit ?_
                have hm := fl_nx hm hF4
                exact ⟨_, _, ⟨_, rfl, rfl, hm⟩, ⟨rfl, trivial⟩, ⟨rfl, rfl⟩, _, (s_take (s_take (s_take (s_take (s_take (s_take (s_take (s_take (s_take (s_take (s_take (s_take (s_take s_nil)))))))))))))⟩
            · rintro sh G ⟨c6, rfl, rfl, hm⟩
              subst hF3
              refine c_seq ?_
              refine c_region ?_
              refine o_L (y_assign rfl) rfl rfl ?_
              refine o_nil0 rfl ?_
              refine c_ret ?_
              obtain rfl := p1 hm
              refine fun aX wX heX hsX => ret1 Tryz.results111 heX rfl (s_skip (s_get (ks (ks (ks (ks (ks (ks (ks (ks (ks (ks k0)))))))))) (s_take (s_take (s_take (s_take (s_take (s_take (s_take (s_take (s_take (s_skip (s_take s_nil))))))))))))) ?_
              exact ⟨rfl, rfl⟩
end Go.Proofs.Qxb6500350aGreat
