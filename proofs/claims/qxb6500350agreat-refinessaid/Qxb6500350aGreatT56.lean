/- MADE BY PROGRAM (tools350/mir.py): mirror and walk. -/
import Derived.Test.Qxb6500350aGreatF2
import Derived.Test.Qxb6500350aGreatT133
import Derived.Test.Qxb6500350aGreatT96
import Derived.Test.Qxb6500350aGreatT124
import Derived.Test.Qxb6500350aGreatT125
import Derived.Test.Qxb6500350aGreatT134
import Derived.Test.Qxb6500350aGreatT27
import Derived.Test.Qxb6500350aGreatT135
set_option linter.unusedVariables false
set_option linter.unusedSimpArgs false
set_option maxRecDepth 20000
set_option maxHeartbeats 4000000
namespace Go.Proofs.Qxb6500350aGreat
open Go.Eng

/- (*repom.Repo).Commit -/
def m56_w1 (n : Nat) (m : RepoM) (mm : Nat) : Int → Option (Flow (Int × Int × RepoM) (Int)) := it1 (fun lp1 c1 =>
cond (decide (c1 < (m.index.length : Int))) (
Option.bind (ixL m.index c1) fun x1 =>
cond (decide (x1.mode = 1)) (
Option.bind (some (0, 21, m)) fun q1 => some (.ret q1)) (
lp1 (wi (c1 + 1)))) (
some (.nx c1))) mm
def m56 (n : Nat) (m : RepoM) (msg : Str) : Option (Int × Int × RepoM) :=
cond (decide ((16 : Int) < (msg.length : Int))) (
some (0, 19, m)) (
flow (m56_w1 n m n 0) some (un1 fun c2 =>
flow (cond (decide (m.head.merge = 0)) (
ob1 (m133 n m) fun l1 =>
ob1 (m96 n m.index l1) fun c3 =>
cond c3 (
Option.bind (some (0, 23, m)) fun q2 => some (.ret q2)) (
some (.nx ()))) (
some (.nx ()))) some (fun _ =>
cond (decide ((40 : Int) ≤ (m.nodes.length : Int))) (
some (0, 8, m)) (
ob1 (m124 n m.index) fun c4 =>
ob2 (m125 n m (wi (c4 + 2))) fun c5 z2 =>
cond (!c5) (
some (0, 5, z2)) (
ob1 (m134 n z2) fun c6 =>
ob1 (cond (decide (¬ (c6 = 0))) (
Option.bind (apd ([] : List Int) c6) fun l3 =>
some l3) (
some ([] : List Int))) fun l2 =>
ob1 (cond (decide (¬ (z2.head.merge = 0))) (
Option.bind (apd l2 z2.head.merge) fun l5 =>
some l5) (
some l2)) fun l4 =>
nm ({ z2 with nxt := (wi (z2.nxt + 1)) } : RepoM) fun z3 =>
ob1 (m27 n z3.index) fun l6 =>
Option.bind (apd z3.nodes ({ seq := z2.nxt, files := l6, parents := l4, msg := msg } : Node)) fun l7 =>
nm ({ z3 with nodes := l7 } : RepoM) fun z4 =>
ob1 (m135 n z4 z2.nxt) fun z5 =>
some (z2.nxt, 0, z5))))))
theorem t56 {n : Nat} {C : List Chunk} {rc1 : Int} {rc2 : Int} {rz1 : RepoM} {b1 : Nat} {m : RepoM} {v1 : Value} {g1 : List Chunk} {v2 : Value} {g2 : List Chunk} {v3 : Value} {g3 : List Chunk} {v4 : Value} {g4 : List Chunk} {msg : Str} (ho1 : Own rNode v1 m.nodes g1) (ho2 : Own rRef_ v2 m.refs g2) (ho3 : Own rFile v3 m.index g3) (ho4 : Own rFile v4 m.work g4)  (hm : m56 n m msg = some (rc1, rc2, rz1)) : Trip Tryz.prog 56 #[.pointer (some ⟨b1, 0, none⟩), .string ⟨(msg : Str).toArray⟩] ([[(b1, .cells (RepoM.enc (v1) (v2) (v3) (v4) m).toArray 59 (0, 0))], g1, g2, g3, g4] ++ [C]) (fun u S' => ∃ (ev1 : Value), ∃ (eg1 : List Chunk), ∃ (ev2 : Value), ∃ (eg2 : List Chunk), .tuple #[.int .i64 rc1, .int .i64 rc2] = u ∧ S' = [[(b1, .cells (RepoM.enc (ev1) (ev2) (v3) (v4) rz1).toArray 59 (0, 0))], eg1, eg2, g3, g4] ++ [C] ∧ Own rNode ev1 rz1.nodes eg1 ∧ Own rRef_ ev2 rz1.refs eg2 ∧ Own rFile v3 rz1.index g3 ∧ Own rFile v4 rz1.work g4) := by
  refine fn_entry (args := [.pointer (some ⟨b1, 0, none⟩), .string ⟨(msg : Str).toArray⟩]) Tryz.func56 rfl Tryz.ntmps56 rfl (fun w0 => ?_)
  refine c_seq ?_
  refine c_region ?_
  refine o_L (y_assign rfl) rfl rfl ?_
  refine o_L (y_assign rfl) rfl rfl ?_
  refine o_nil0 rfl ?_
  refine c_seq ?_
  refine c_seq ?_
  refine c_region ?_
  refine o_T (y_move rfl) rfl ?_
  refine o_T (y_slen Tryz.underlying9 rfl) rfl ?_
  refine o_T (y_gtr rfl rfl) rfl ?_
  refine o_nil1 15 rfl rfl ?_
  refine c_cond rfl (fun h1 => ?_) (fun h1 => ?_)
  · have hm := cd_t h1 hm
    refine c_seq ?_
    refine c_region ?_
    refine o_L (y_assign rfl) rfl rfl ?_
    refine o_L (y_assign rfl) rfl rfl ?_
    refine o_nil0 rfl ?_
    refine c_ret ?_
    obtain ⟨rfl, rfl, rfl⟩ := pr3 hm
    refine fun aX wX heX hsX => ret2 Tryz.results56 heX rfl rfl (s_take (s_take (s_take (s_take (s_take (s_take s_nil)))))) ?_
    exact ⟨v1, _, v2, _, rfl, rfl, ho1, ho2, ho3, ho4⟩
  · have hm := cd_f h1 hm
    refine c_skip ?_
    refine c_seq ?_
    refine c_seq ?_
    refine c_region ?_
    refine o_L (y_assign rfl) rfl rfl ?_
    refine o_nil0 rfl ?_
    obtain ⟨f1, F1, hF1, hj1, hF2⟩ := fl2 hm
    refine c_joinP (n := 0) (fun sh G => ∃ (c2 : Int), sh = [(6, .int .i64 c2)] ∧ G = [] ∧ F1 c2 = some (rc1, rc2, rz1)) (s_take (s_take (s_take (s_take (s_take (s_take s_nil)))))) .z (fun _ _ h => h) ?_ ?_
    · skip
      refine c_block ?_
      refine c_loopP (n := 0) (fun mm sh G => ∃ (c1 : Int), sh = [(6, .int .i64 c1)] ∧ G = [] ∧ m56_w1 n m mm c1 = some f1) n (s_take (s_take (s_take (s_take (s_take (s_take s_nil)))))) .z ⟨_, _, ⟨_, rfl, rfl, hj1⟩, ⟨rfl, trivial⟩, _, (s_take (s_take (s_take (s_take (s_take (s_take s_nil))))))⟩ ?_
      rintro mm sh G ⟨c1, rfl, rfl, hm⟩
      obtain ⟨mm1, rfl, hm⟩ := it1_s hm
      refine c_seq ?_
      refine c_seq ?_
      refine c_region ?_
      refine o_T (y_move rfl) rfl ?_
      refine o_T (y_move rfl) rfl ?_
      refine o_T (y_nilck rfl) rfl ?_
      refine o_T (y_fa fl_59_4 rfl) rfl ?_
      refine o_ld one_57 rfl m0 (At.got (At.refl.comp RepoM.a_index)) rfl ?_
      refine o_T (y_lenR ho3.rd Tryz.underlying57 rfl) rfl ?_
      refine o_T (y_lss rfl rfl) rfl ?_
      refine o_nil1 22 rfl rfl ?_
      refine c_cond rfl (fun h2 => ?_) (fun h2 => ?_)
      · have hm := cd_t h2 hm
        refine c_skip ?_
        refine c_seq ?_
        refine c_block ?_
        refine c_seq ?_
        refine c_region ?_
        refine o_T (y_move rfl) rfl ?_
        refine o_T (y_nilck rfl) rfl ?_
        refine o_T (y_fa fl_59_4 rfl) rfl ?_
        refine o_ld one_57 rfl m0 (At.got (At.refl.comp RepoM.a_index)) rfl ?_
        refine o_T (y_move rfl) rfl ?_
        obtain ⟨x1, hx1, hm⟩ := bd hm
        obtain ⟨b2, w1, cs1, y1, z1, vs1, hc1, ha1, hr1, hy1⟩ := ho3.rd.ix hx1
        obtain rfl : vs1 = File.enc x1 := hr1
        refine o_T (hy1 sl_57 rfl rfl rfl) rfl ?_
        refine o_T (y_fa fl_71_2 rfl) rfl ?_
        refine o_ld one_3 rfl (ms (ms (ms (mg hc1)))) (At.getA (ha1.comp File.a_mode)) rfl ?_
        refine o_T (y_eql rfl rfl) rfl ?_
        refine o_nil1 33 rfl rfl ?_
        refine c_cond rfl (fun h3 => ?_) (fun h3 => ?_)
        · have hm := cd_t h3 hm
          refine c_seq ?_
          refine c_region ?_
          refine o_L (y_assign rfl) rfl rfl ?_
          refine o_L (y_assign rfl) rfl rfl ?_
          refine o_nil0 rfl ?_
          refine c_ret ?_
          obtain ⟨q1, hq1, hm⟩ := bd hm
          have hm := fl_ret hm hF2
          have hm := hq1.trans hm
          obtain ⟨rfl, rfl, rfl⟩ := pr3 hm
          refine fun aX wX heX hsX => ret2 Tryz.results56 heX rfl rfl (s_take (s_take (s_take (s_take (s_take (s_take s_nil)))))) ?_
          exact ⟨v1, _, v2, _, rfl, rfl, ho1, ho2, ho3, ho4⟩
        · have hm := cd_f h3 hm
          refine c_skip ?_
          refine c_region ?_
          refine o_T (y_move rfl) rfl ?_
          refine o_T (y_add rfl rfl rfl) rfl ?_
          refine o_L (y_assign rfl) rfl rfl ?_
          refine o_nil0 rfl ?_
          exact ⟨mm1, Nat.lt_succ_self _, _, _, ⟨_, rfl, rfl, hm⟩, ⟨rfl, trivial⟩, ⟨rfl, rfl⟩, _, (s_take (s_take (s_take (s_take (s_take (s_take s_nil))))))⟩
      · have hm := cd_f h2 hm
        refine c_exit ?_
        have hm := fl_nx hm hF2
        exact ⟨_, _, ⟨_, rfl, rfl, hm⟩, ⟨rfl, trivial⟩, ⟨rfl, rfl⟩, _, (s_take (s_take (s_take (s_take (s_take (s_take s_nil))))))⟩
    · rintro sh G ⟨c2, rfl, rfl, hm⟩
      subst hF1
      refine c_seq ?_
      refine c_seq ?_
      refine c_region ?_
      refine o_T (y_move rfl) rfl ?_
      refine o_T (y_nilck rfl) rfl ?_
      refine o_T (y_fa fl_59_3 rfl) rfl ?_
      refine o_T (y_fa fl_54_2 rfl) rfl ?_
      refine o_ld one_3 rfl m0 (At.got ((At.refl.comp RepoM.a_head).comp Head.a_merge)) rfl ?_
      refine o_T (y_eql rfl rfl) rfl ?_
      refine o_nil1 39 rfl rfl ?_
      obtain ⟨f2, F2, hF3, hj2, hF4⟩ := fl2 hm
      refine c_joinP (n := 0) (fun sh G => sh = [] ∧ G = [] ∧ F2 () = some (rc1, rc2, rz1)) (s_take (s_take (s_take (s_take (s_take (s_take s_nil)))))) .z (fun _ _ h => h) ?_ ?_
      · have hm := hj2
        refine c_cond rfl (fun h4 => ?_) (fun h4 => ?_)
        · have hm := cd_t h4 hm
          refine c_seq ?_
          refine c_region ?_
          refine o_T (y_move rfl) rfl ?_
          obtain ⟨l1, hx2, hm⟩ := bd1 hm
          refine o_callC en_133 rfl (s_take (s_take (s_take (s_take (s_take s_nil))))) (t133 ho1 ho2 ho3 ho4 hx2) rfl (fun u1 S1 hR1 => ?_)
          obtain ⟨v5, rfl, rfl, hr2⟩ := hR1
          refine o_rest ?_
          refine o_L (y_assign rfl) rfl rfl ?_
          refine o_nil0 rfl ?_
          refine c_seq ?_
          refine c_region ?_
          refine o_T (y_move rfl) rfl ?_
          refine o_T (y_nilck rfl) rfl ?_
          refine o_T (y_fa fl_59_4 rfl) rfl ?_
          refine o_ld one_57 rfl m0 (At.got (At.refl.comp RepoM.a_index)) rfl ?_
          refine o_T (y_move rfl) rfl ?_
          obtain ⟨c3, hx3, hm⟩ := bd1 hm
          refine o_callC en_96 rfl s_nil (t96 (ho3.rd.mono (fun _ hz => (ms (ms (ms (mg hz)))))) (hr2.mono (fun _ hz => (ms (mg hz)))) hx3) rfl (fun u2 S2 hR2 => ?_)
          obtain ⟨rfl, rfl⟩ := hR2
          refine o_rest ?_
          refine o_nil1 47 rfl rfl ?_
          refine c_cond rfl (fun h5 => ?_) (fun h5 => ?_)
          · have hm := cd_t h5 hm
            refine c_seq ?_
            refine c_region ?_
            refine o_L (y_assign rfl) rfl rfl ?_
            refine o_L (y_assign rfl) rfl rfl ?_
            refine o_nil0 rfl ?_
            refine c_ret ?_
            obtain ⟨q2, hq2, hm⟩ := bd hm
            have hm := fl_ret hm hF4
            have hm := hq2.trans hm
            obtain ⟨rfl, rfl, rfl⟩ := pr3 hm
            refine fun aX wX heX hsX => ret2 Tryz.results56 heX rfl rfl (s_take (s_take (s_take (s_take (s_take (s_take s_nil)))))) ?_
            exact ⟨v1, _, v2, _, rfl, rfl, ho1, ho2, ho3, ho4⟩
          · have hm := cd_f h5 hm
            refine c_skip ?_
            have hm := fl_nx hm hF4
            exact ⟨_, _, ⟨rfl, rfl, hm⟩, trivial, ⟨rfl, rfl⟩, _, (s_take (s_take (s_take (s_take (s_take (s_take s_nil))))))⟩
        · have hm := cd_f h4 hm
          refine c_skip ?_
          have hm := fl_nx hm hF4
          exact ⟨_, _, ⟨rfl, rfl, hm⟩, trivial, ⟨rfl, rfl⟩, _, (s_take (s_take (s_take (s_take (s_take (s_take s_nil))))))⟩
      · rintro sh G ⟨rfl, rfl, hm⟩
        subst hF3
        refine c_seq ?_
        refine c_seq ?_
        refine c_region ?_
        refine o_T (y_move rfl) rfl ?_
        refine o_T (y_nilck rfl) rfl ?_
        refine o_T (y_fa fl_59_0 rfl) rfl ?_
        refine o_ld one_55 rfl m0 (At.got (At.refl.comp RepoM.a_nodes)) rfl ?_
        refine o_T (y_lenR ho1.rd Tryz.underlying55 rfl) rfl ?_
        refine o_T (y_geq rfl rfl) rfl ?_
        refine o_nil1 53 rfl rfl ?_
        refine c_cond rfl (fun h6 => ?_) (fun h6 => ?_)
        · have hm := cd_t h6 hm
          refine c_seq ?_
          refine c_region ?_
          refine o_L (y_assign rfl) rfl rfl ?_
          refine o_L (y_assign rfl) rfl rfl ?_
          refine o_nil0 rfl ?_
          refine c_ret ?_
          obtain ⟨rfl, rfl, rfl⟩ := pr3 hm
          refine fun aX wX heX hsX => ret2 Tryz.results56 heX rfl rfl (s_take (s_take (s_take (s_take (s_take (s_take s_nil)))))) ?_
          exact ⟨v1, _, v2, _, rfl, rfl, ho1, ho2, ho3, ho4⟩
        · have hm := cd_f h6 hm
          refine c_skip ?_
          refine c_seq ?_
          refine c_region ?_
          refine o_T (y_move rfl) rfl ?_
          refine o_T (y_nilck rfl) rfl ?_
          refine o_T (y_fa fl_59_4 rfl) rfl ?_
          refine o_ld one_57 rfl m0 (At.got (At.refl.comp RepoM.a_index)) rfl ?_
          obtain ⟨c4, hx4, hm⟩ := bd1 hm
          refine o_callC en_124 rfl s_nil (t124 (ho3.rd.mono (fun _ hz => (ms (ms (ms (mg hz)))))) hx4) rfl (fun u3 S3 hR3 => ?_)
          obtain ⟨rfl, rfl⟩ := hR3
          refine o_rest ?_
          refine o_T (y_add rfl rfl rfl) rfl ?_
          refine o_L (y_assign rfl) rfl rfl ?_
          refine o_nil0 rfl ?_
          refine c_seq ?_
          refine c_seq ?_
          refine c_region ?_
          refine o_T (y_move rfl) rfl ?_
          refine o_T (y_move rfl) rfl ?_
          obtain ⟨c5, z2, hx5, hm⟩ := bd2 hm
          refine o_callC en_125 rfl (s_take (s_take (s_take (s_take (s_take s_nil))))) (t125 ho1 ho2 ho3 ho4 hx5) rfl (fun u4 S4 hR4 => ?_)
          obtain ⟨rfl, rfl, ho5, ho6, ho7, ho8⟩ := hR4
          refine o_rest ?_
          refine o_T (y_not rfl) rfl ?_
          refine o_nil1 63 rfl rfl ?_
          refine c_cond rfl (fun h7 => ?_) (fun h7 => ?_)
          · have hm := cd_t h7 hm
            refine c_seq ?_
            refine c_region ?_
            refine o_L (y_assign rfl) rfl rfl ?_
            refine o_L (y_assign rfl) rfl rfl ?_
            refine o_nil0 rfl ?_
            refine c_ret ?_
            obtain ⟨rfl, rfl, rfl⟩ := pr3 hm
            refine fun aX wX heX hsX => ret2 Tryz.results56 heX rfl rfl (s_take (s_take (s_take (s_take (s_take (s_take s_nil)))))) ?_
            exact ⟨v1, _, v2, _, rfl, rfl, ho5, ho6, ho7, ho8⟩
          · have hm := cd_f h7 hm
            refine c_skip ?_
            refine c_seq ?_
            refine c_region ?_
            have ho9 : Own rInt (.slice none 0 0) [] [] := Own.nil
            refine o_emp ?_
            refine o_L (y_assign rfl) rfl rfl ?_
            refine o_nil0 rfl ?_
            refine c_seq ?_
            refine c_region ?_
            refine o_T (y_move rfl) rfl ?_
            obtain ⟨c6, hx6, hm⟩ := bd1 hm
            refine o_callC en_134 rfl (s_skip (s_take (s_take (s_take (s_take (s_take s_nil)))))) (t134 ho5 ho6 ho7 ho8 hx6) rfl (fun u5 S5 hR5 => ?_)
            obtain ⟨rfl, rfl⟩ := hR5
            refine o_rest ?_
            refine o_L (y_assign rfl) rfl rfl ?_
            refine o_nil0 rfl ?_
            refine c_seq ?_
            refine c_seq ?_
            refine c_region ?_
            refine o_T (y_move rfl) rfl ?_
            refine o_T (y_neq rfl rfl) rfl ?_
            refine o_nil1 67 rfl rfl ?_
            obtain ⟨l2, hj3, hm⟩ := bd1 hm
            refine c_joinP (n := 1) (fun sh G => ∃ (v10 : Value), ∃ (g9 : List Chunk), sh = [(9, v10)] ∧ G = [g9] ∧ Own rInt v10 l2 g9) (s_get (ks (ks (ks (ks (ks k0))))) (s_take (s_take (s_take (s_take (s_take (s_take s_nil))))))) (.s .z) (fun _ _ h => h) ?_ ?_
            · have hm := hj3
              refine c_cond rfl (fun h8 => ?_) (fun h8 => ?_)
              · have hm := cd_t h8 hm
                refine c_region ?_
                refine o_T (y_move rfl) rfl ?_
                refine o_T (y_move rfl) rfl ?_
                refine o_bs1 sz_65 rfl rfl rfl rfl rfl rfl (fun b3 => ?_)
                obtain ⟨l3, hx7, hm⟩ := bd hm
                refine o_appR (R := rInt) (a := c6) sz_65 rfl rfl rfl rfl ho9 rfl hx7 (Sel.e (s_get (ks (ks (ks (ks (ks (ks k0)))))) (s_take s_nil))) rfl (fun v11 g10 ho11 => ?_)
                refine o_L (y_assign rfl) rfl rfl ?_
                refine o_nil0 rfl ?_
                obtain rfl := p1 hm
                exact ⟨_, _, ⟨v11, _, rfl, rfl, ho11⟩, ⟨rfl, trivial⟩, ⟨rfl, rfl⟩, _, (s_take (s_take (s_take (s_take (s_take (s_take (s_take s_nil)))))))⟩
              · have hm := cd_f h8 hm
                refine c_skip ?_
                obtain rfl := p1 hm
                exact ⟨_, _, ⟨(.slice none 0 0), _, rfl, rfl, ho9⟩, ⟨rfl, trivial⟩, ⟨rfl, rfl⟩, _, (s_get (ks (ks (ks (ks (ks k0))))) (s_take (s_take (s_take (s_take (s_take (s_take s_nil)))))))⟩
            · rintro sh G ⟨v10, g9, rfl, rfl, ho10⟩
              refine c_seq ?_
              refine c_seq ?_
              refine c_region ?_
              refine o_T (y_move rfl) rfl ?_
              refine o_T (y_nilck rfl) rfl ?_
              refine o_T (y_fa fl_59_3 rfl) rfl ?_
              refine o_T (y_fa fl_54_2 rfl) rfl ?_
              refine o_ld one_3 rfl (ms m0) (At.got ((At.refl.comp RepoM.a_head).comp Head.a_merge)) rfl ?_
              refine o_T (y_neq rfl rfl) rfl ?_
              refine o_nil1 77 rfl rfl ?_
              obtain ⟨l4, hj4, hm⟩ := bd1 hm
              refine c_joinP (n := 1) (fun sh G => ∃ (v12 : Value), ∃ (g11 : List Chunk), sh = [(9, v12)] ∧ G = [g11] ∧ Own rInt v12 l4 g11) (s_take (s_take (s_take (s_take (s_take (s_take (s_take s_nil))))))) (.s .z) (fun _ _ h => h) ?_ ?_
              · have hm := hj4
                refine c_cond rfl (fun h9 => ?_) (fun h9 => ?_)
                · have hm := cd_t h9 hm
                  refine c_region ?_
                  refine o_T (y_move rfl) rfl ?_
                  refine o_T (y_move rfl) rfl ?_
                  refine o_T (y_nilck rfl) rfl ?_
                  refine o_T (y_fa fl_59_3 rfl) rfl ?_
                  refine o_T (y_fa fl_54_2 rfl) rfl ?_
                  refine o_ld one_3 rfl (ms m0) (At.got ((At.refl.comp RepoM.a_head).comp Head.a_merge)) rfl ?_
                  refine o_bs1 sz_65 rfl rfl rfl rfl rfl rfl (fun b4 => ?_)
                  obtain ⟨l5, hx8, hm⟩ := bd hm
                  refine o_appR (R := rInt) (a := z2.head.merge) sz_65 rfl rfl rfl rfl ho10 rfl hx8 (Sel.e (s_get (ks k0) (s_take s_nil))) rfl (fun v13 g12 ho13 => ?_)
                  refine o_L (y_assign rfl) rfl rfl ?_
                  refine o_nil0 rfl ?_
                  obtain rfl := p1 hm
                  exact ⟨_, _, ⟨v13, _, rfl, rfl, ho13⟩, ⟨rfl, trivial⟩, ⟨rfl, rfl⟩, _, (s_take (s_take (s_take (s_take (s_take (s_take (s_take s_nil)))))))⟩
                · have hm := cd_f h9 hm
                  refine c_skip ?_
                  obtain rfl := p1 hm
                  exact ⟨_, _, ⟨v10, _, rfl, rfl, ho10⟩, ⟨rfl, trivial⟩, ⟨rfl, rfl⟩, _, (s_take (s_take (s_take (s_take (s_take (s_take (s_take s_nil)))))))⟩
              · rintro sh G ⟨v12, g11, rfl, rfl, ho12⟩
                refine c_seq ?_
                refine c_region ?_
                refine o_T (y_move rfl) rfl ?_
                refine o_T (y_nilck rfl) rfl ?_
                refine o_T (y_fa fl_59_1 rfl) rfl ?_
                refine o_ld one_3 rfl (ms m0) (At.got (At.refl.comp RepoM.a_nxt)) rfl ?_
                refine o_L (y_assign rfl) rfl rfl ?_
                refine o_nil0 rfl ?_
                refine c_seq ?_
                refine c_region ?_
                refine o_T (y_move rfl) rfl ?_
                refine o_T (y_move rfl) rfl ?_
                refine o_T (y_add rfl rfl rfl) rfl ?_
                refine o_T (y_nilck rfl) rfl ?_
                refine o_T (y_fa fl_59_1 rfl) rfl ?_
                obtain ⟨z3, hn1, hm⟩ := nm_s hm
                have ho14 := ho5.to (l' := z3.nodes) (by subst hn1; rfl)
                have ho15 := ho6.to (l' := z3.refs) (by subst hn1; rfl)
                have ho16 := ho7.to (l' := z3.index) (by subst hn1; rfl)
                have ho17 := ho8.to (l' := z3.work) (by subst hn1; rfl)
                refine o_stN one_3 rfl rfl rfl (Upd.z RepoM.u_nxt) (rs r0) (show (RepoM.enc (v1) (v2) (v3) (v4) z3) = _ from by subst hn1; rfl) ?_
                refine o_nil0 rfl ?_
                refine c_seq ?_
                refine c_region ?_
                refine o_T (y_move rfl) rfl ?_
                refine o_T (y_nilck rfl) rfl ?_
                refine o_T (y_fa fl_59_4 rfl) rfl ?_
                refine o_ld one_57 rfl (ms m0) (At.got (At.refl.comp RepoM.a_index)) rfl ?_
                obtain ⟨l6, hx9, hm⟩ := bd1 hm
                refine o_callC en_27 rfl s_nil (t27 (ho16.rd.mono (fun _ hz => (ms (ms (ms (ms (mg hz))))))) hx9) rfl (fun u6 S6 hR6 => ?_)
                obtain ⟨v14, g13, rfl, rfl, ho18⟩ := hR6
                refine o_rest ?_
                refine o_L (y_assign rfl) rfl rfl ?_
                refine o_nil0 rfl ?_
                refine c_seq ?_
                refine c_region ?_
                refine o_T (y_move rfl) rfl ?_
                refine o_T (y_move rfl) rfl ?_
                refine o_T (y_nilck rfl) rfl ?_
                refine o_T (y_fa fl_59_0 rfl) rfl ?_
                refine o_ld one_55 rfl (ms (ms m0)) (At.got (At.refl.comp RepoM.a_nodes)) rfl ?_
                refine o_T (y_move rfl) rfl ?_
                refine o_T (y_move rfl) rfl ?_
                refine o_T (y_move rfl) rfl ?_
                refine o_T (y_move rfl) rfl ?_
                refine o_T (y_build st_93 rfl (fbU rfl Node.u_seq rfl rfl (fbU rfl Node.u_files (cells1 ho18.pl) rfl (fbU rfl Node.u_parents (cells1 ho12.pl) rfl (fbU rfl Node.u_msg rfl rfl fbU0))))) rfl ?_
                refine o_bs1 sz_55 rfl rfl rfl rfl rfl rfl (fun b5 => ?_)
                obtain ⟨l7, hx10, hm⟩ := bd hm
                refine o_appR (R := rNode) (a := ({ seq := z2.nxt, files := l6, parents := l4, msg := msg } : Node)) sz_55 rfl rfl rfl rfl ho14 ⟨_, _, rfl, ho18.rd.mono (fun _ hz => mem_l hz), ho12.rd.mono (fun _ hz => mem_r hz)⟩ hx10 (Sel.m2 (s_get (ks (ks (ks (ks k0)))) (s_take (s_take (s_take s_nil))))) rfl (fun v15 g14 ho19 => ?_)
                refine o_T (y_nilck rfl) rfl ?_
                refine o_T (y_fa fl_59_0 rfl) rfl ?_
                obtain ⟨z4, hn2, hm⟩ := nm_s hm
                have ho20 := ho19.to (l' := z4.nodes) (by subst hn2; rfl)
                have ho21 := ho15.to (l' := z4.refs) (by subst hn2; rfl)
                have ho22 := ho16.to (l' := z4.index) (by subst hn2; rfl)
                have ho23 := ho17.to (l' := z4.work) (by subst hn2; rfl)
                refine o_stN one_55 rfl rfl ho19.pl (Upd.z RepoM.u_nodes) (rs r0) (show (RepoM.enc (v15) (v2) (v3) (v4) z4) = _ from by subst hn2; rfl) ?_
                refine o_nil0 rfl ?_
                refine c_seq ?_
                refine c_region ?_
                refine o_T (y_move rfl) rfl ?_
                refine o_T (y_move rfl) rfl ?_
                obtain ⟨z5, hx11, hm⟩ := bd1 hm
                refine o_callC en_135 rfl (s_get (ks k0) (s_take (s_take (s_take (s_take s_nil))))) (t135 ho20 ho21 ho22 ho23 hx11) rfl (fun u7 S7 hR7 => ?_)
                obtain ⟨v17, g16, rfl, rfl, ho24, ho25, ho26, ho27⟩ := hR7
                refine o_rest ?_
                refine o_nil0 rfl ?_
                refine c_seq ?_
                refine c_region ?_
                refine o_T (y_move rfl) rfl ?_
                refine o_L (y_assign rfl) rfl rfl ?_
                refine o_L (y_assign rfl) rfl rfl ?_
                refine o_nil0 rfl ?_
                refine c_ret ?_
                obtain ⟨rfl, rfl, rfl⟩ := pr3 hm
                refine fun aX wX heX hsX => ret2 Tryz.results56 heX rfl rfl (s_take (s_take (s_take (s_take (s_take (s_take s_nil)))))) ?_
                exact ⟨v15, _, v17, _, rfl, rfl, ho24, ho25, ho26, ho27⟩
end Go.Proofs.Qxb6500350aGreat
