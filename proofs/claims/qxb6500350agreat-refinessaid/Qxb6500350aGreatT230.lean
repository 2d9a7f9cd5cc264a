/- MADE BY PROGRAM (tools350/mir.py): mirror and walk. -/
import Derived.Test.Qxb6500350aGreatF2
import Derived.Test.Qxb6500350aGreatT147
set_option linter.unusedVariables false
set_option linter.unusedSimpArgs false
set_option maxRecDepth 20000
set_option maxHeartbeats 4000000
namespace Go.Proofs.Qxb6500350aGreat
open Go.Eng

/- api.Reach -/
def m230_w1 (n : Nat) (n_ : (List Node)) (roots : (List Int)) (mm : Nat) : Int → (List Bool) → Option (Int × (List Bool)) := it2 (fun lp1 c1 l2 =>
cond (decide (c1 < (roots.length : Int))) (
Option.bind (ixL roots c1) fun x1 =>
ob1 (m147 n n_ x1) fun c3 =>
cond (decide ((0 : Int) ≤ c3)) (
Option.bind (ckA c3 (l2.length : Int)) fun _ =>
Option.bind (stL l2 c3 true) fun l4 =>
lp1 (wi (c1 + 1)) l4) (
lp1 (wi (c1 + 1)) l2)) (
some (c1, l2))) mm
def m230_w3 (n : Nat) (n_ : (List Node)) (c4 : Int) (mm : Nat) : Int → (List Bool) → Option (Int × (List Bool)) := it2 (fun lp3 c6 l7 =>
Option.bind (ixL n_ c4) fun x4 =>
cond (decide (c6 < (x4.parents.length : Int))) (
Option.bind (ixL n_ c4) fun x5 =>
Option.bind (ixL x5.parents c6) fun x6 =>
ob1 (m147 n n_ x6) fun c8 =>
cond (decide ((0 : Int) ≤ c8)) (
Option.bind (ckA c8 (l7.length : Int)) fun _ =>
Option.bind (stL l7 c8 true) fun l9 =>
lp3 (wi (c6 + 1)) l9) (
lp3 (wi (c6 + 1)) l7)) (
some (c6, l7))) mm
def m230_w2 (n : Nat) (n_ : (List Node)) (mm : Nat) : Int → (List Bool) → Option (Int × (List Bool)) := it2 (fun lp2 c4 l5 =>
cond (decide ((0 : Int) ≤ c4)) (
Option.bind (ixL l5 c4) fun x3 =>
cond x3 (
ob2 (m230_w3 n n_ c4 n 0 l5) fun c7 l8 =>
lp2 (wi (c4 - 1)) l8) (
lp2 (wi (c4 - 1)) l5)) (
some (c4, l5))) mm
def m230 (n : Nat) (n_ : (List Node)) (roots : (List Int)) : Option ((List Bool)) :=
Option.bind (mkL (n_.length : Int) (n_.length : Int) (false : Bool)) fun l1 =>
ob2 (m230_w1 n n_ roots n 0 l1) fun c2 l3 =>
ob2 (m230_w2 n n_ n (wi ((n_.length : Int) - 1)) l3) fun c5 l6 =>
some l6
theorem t230 {n : Nat} {C : List Chunk} {rl1 : List Bool} {v1 : Value} {n_ : (List Node)} {v2 : Value} {roots : (List Int)} (hr1 : Rd rNode C v1 n_) (hr2 : Rd rInt C v2 roots)  (hm : m230 n n_ roots = some rl1) : Trip Tryz.prog 230 #[v1, v2] ([] ++ [C]) (fun u S' => ∃ (ev1 : Value), ∃ (eg1 : List Chunk), ev1 = u ∧ S' = [eg1] ++ [C] ∧ Own rBool ev1 rl1 eg1) := by
  refine fn_entry (args := [v1, v2]) Tryz.func230 rfl Tryz.ntmps230 rfl (fun w0 => ?_)
  refine c_seq ?_
  refine c_region ?_
  have ho1 : Own rBool (.slice none 0 0) [] [] := Own.nil
  refine o_emp ?_
  refine o_L (y_assign rfl) rfl rfl ?_
  refine o_nil0 rfl ?_
  refine c_seq ?_
  refine c_region ?_
  refine o_T (y_move rfl) rfl ?_
  refine o_T (y_lenR hr1 Tryz.underlying55 rfl) rfl ?_
  obtain ⟨l1, hx1, hm⟩ := bd hm
  refine o_mkR (R := rBool) (a := false) sz_241 rfl rfl rfl rfl rfl hx1 rfl (fun v3 g1 ho2 => ?_)
  refine o_L (y_assign rfl) rfl rfl ?_
  refine o_nil0 rfl ?_
  refine c_seq ?_
  refine c_seq ?_
  refine c_region ?_
  refine o_L (y_assign rfl) rfl rfl ?_
  refine o_nil0 rfl ?_
  obtain ⟨c2, l3, hj1, hm⟩ := bd2 hm
  refine c_joinP (n := 1) (fun sh G => ∃ (g3 : List Chunk), sh = [(6, .int .i64 c2)] ∧ G = [g3] ∧ Own rBool v3 l3 g3) (s_take (s_skip (s_take s_nil))) (.s .z) (fun _ _ h => h) ?_ ?_
  · skip
    refine c_block ?_
    refine c_loopP (n := 1) (fun mm sh G => ∃ (c1 : Int), ∃ (l2 : List Bool), ∃ (g2 : List Chunk), sh = [(6, .int .i64 c1)] ∧ G = [g2] ∧ m230_w1 n n_ roots mm c1 l2 = some (c2, l3) ∧ Own rBool v3 l2 g2) n (s_take (s_skip (s_take s_nil))) (.s .z) ⟨_, _, ⟨_, _, _, rfl, rfl, hj1, ho2⟩, ⟨rfl, trivial⟩, _, (s_take (s_skip (s_take s_nil)))⟩ ?_
    rintro mm sh G ⟨c1, l2, g2, rfl, rfl, hm, ho3⟩
    obtain ⟨mm1, rfl, hm⟩ := it2_s hm
    refine c_seq ?_
    refine c_seq ?_
    refine c_region ?_
    refine o_T (y_move rfl) rfl ?_
    refine o_T (y_move rfl) rfl ?_
    refine o_T (y_lenR hr2 Tryz.underlying65 rfl) rfl ?_
    refine o_T (y_lss rfl rfl) rfl ?_
    refine o_nil1 17 rfl rfl ?_
    refine c_cond rfl (fun h1 => ?_) (fun h1 => ?_)
    · have hm := cd_t h1 hm
      refine c_skip ?_
      refine c_seq ?_
      refine c_block ?_
      refine c_seq ?_
      refine c_region ?_
      refine o_T (y_move rfl) rfl ?_
      refine o_T (y_move rfl) rfl ?_
      refine o_T (y_move rfl) rfl ?_
      obtain ⟨x1, hx2, hm⟩ := bd hm
      obtain ⟨b1, w1, cs1, y1, z1, vs1, hc1, ha1, hr3, hy1⟩ := hr2.ix hx2
      obtain rfl : vs1 = (encI x1) := hr3
      refine o_T (hy1 sl_65 rfl rfl rfl) rfl ?_
      refine o_ld one_3 rfl (ms (mg hc1)) (At.getA (ha1)) rfl ?_
      obtain ⟨c3, hx3, hm⟩ := bd1 hm
      refine o_callC en_147 rfl s_nil (t147 (hr1.mono (fun _ hz => (ms (mg hz)))) hx3) rfl (fun u1 S1 hR1 => ?_)
      obtain ⟨rfl, rfl⟩ := hR1
      refine o_rest ?_
      refine o_L (y_assign rfl) rfl rfl ?_
      refine o_nil0 rfl ?_
      refine c_seq ?_
      refine c_region ?_
      refine o_T (y_move rfl) rfl ?_
      refine o_T (y_geq rfl rfl) rfl ?_
      refine o_nil1 27 rfl rfl ?_
      refine c_cond rfl (fun h2 => ?_) (fun h2 => ?_)
      · have hm := cd_t h2 hm
        refine c_region ?_
        refine o_T (y_move rfl) rfl ?_
        refine o_T (y_move rfl) rfl ?_
        obtain ⟨_, hi1, hm⟩ := bd hm
        have hi1 := ckA_some hi1
        obtain ⟨b2, cp1, hv1, hy2⟩ := ho3.ix hi1
        refine o_T (hy2 sl_241 rfl rfl rfl) rfl ?_
        obtain ⟨l4, hx5, hm⟩ := bd hm
        refine o_stO1 one_4 rfl rfl rfl rfl ho3 hv1 hx5 (fun _ => q0) (fun g4 ho5 => ?_)
        refine o_nil0 rfl ?_
        refine c_region ?_
        refine o_T (y_move rfl) rfl ?_
        refine o_T (y_add rfl rfl rfl) rfl ?_
        refine o_L (y_assign rfl) rfl rfl ?_
        refine o_nil0 rfl ?_
        exact ⟨mm1, Nat.lt_succ_self _, _, _, ⟨_, _, _, rfl, rfl, hm, ho5⟩, ⟨rfl, trivial⟩, ⟨rfl, rfl⟩, _, (s_take (s_take s_nil))⟩
      · have hm := cd_f h2 hm
        refine c_skip ?_
        refine c_region ?_
        refine o_T (y_move rfl) rfl ?_
        refine o_T (y_add rfl rfl rfl) rfl ?_
        refine o_L (y_assign rfl) rfl rfl ?_
        refine o_nil0 rfl ?_
        exact ⟨mm1, Nat.lt_succ_self _, _, _, ⟨_, _, _, rfl, rfl, hm, ho3⟩, ⟨rfl, trivial⟩, ⟨rfl, rfl⟩, _, (s_take (s_take s_nil))⟩
    · have hm := cd_f h1 hm
      refine c_exit ?_
      obtain ⟨rfl, rfl⟩ := pr2 hm
      exact ⟨_, _, ⟨_, rfl, rfl, ho3⟩, ⟨rfl, trivial⟩, ⟨rfl, rfl⟩, _, (s_take (s_take s_nil))⟩
  · rintro sh G ⟨g3, rfl, rfl, ho4⟩
    refine c_seq ?_
    refine c_seq ?_
    refine c_region ?_
    refine o_T (y_move rfl) rfl ?_
    refine o_T (y_lenR hr1 Tryz.underlying55 rfl) rfl ?_
    refine o_T (y_sub rfl rfl rfl) rfl ?_
    refine o_L (y_assign rfl) rfl rfl ?_
    refine o_nil0 rfl ?_
    obtain ⟨c5, l6, hj2, hm⟩ := bd2 hm
    refine c_joinP (n := 1) (fun sh G => ∃ (g6 : List Chunk), sh = [(8, .int .i64 c5)] ∧ G = [g6] ∧ Own rBool v3 l6 g6) (s_take (s_take s_nil)) (.s .z) (fun _ _ h => h) ?_ ?_
    · skip
      refine c_block ?_
      refine c_loopP (n := 1) (fun mm sh G => ∃ (c4 : Int), ∃ (l5 : List Bool), ∃ (g5 : List Chunk), sh = [(8, .int .i64 c4)] ∧ G = [g5] ∧ m230_w2 n n_ mm c4 l5 = some (c5, l6) ∧ Own rBool v3 l5 g5) n (s_take (s_take s_nil)) (.s .z) ⟨_, _, ⟨_, _, _, rfl, rfl, hj2, ho4⟩, ⟨rfl, trivial⟩, _, (s_take (s_take s_nil))⟩ ?_
      rintro mm sh G ⟨c4, l5, g5, rfl, rfl, hm, ho6⟩
      obtain ⟨mm2, rfl, hm⟩ := it2_s hm
      refine c_seq ?_
      refine c_seq ?_
      refine c_region ?_
      refine o_T (y_move rfl) rfl ?_
      refine o_T (y_geq rfl rfl) rfl ?_
      refine o_nil1 35 rfl rfl ?_
      refine c_cond rfl (fun h3 => ?_) (fun h3 => ?_)
      · have hm := cd_t h3 hm
        refine c_skip ?_
        refine c_seq ?_
        refine c_block ?_
        refine c_seq ?_
        refine c_region ?_
        refine o_T (y_move rfl) rfl ?_
        refine o_T (y_move rfl) rfl ?_
        obtain ⟨x3, hx6, hm⟩ := bd hm
        obtain ⟨b3, w2, cs2, y2, z2, vs2, hc2, ha2, hr4, hy3⟩ := ho6.rd.ix hx6
        obtain rfl : vs2 = (encB x3) := hr4
        refine o_T (hy3 sl_241 rfl rfl rfl) rfl ?_
        refine o_ld one_4 rfl (mg hc2) (At.getA (ha2)) rfl ?_
        refine o_nil1 41 rfl rfl ?_
        refine c_cond rfl (fun h4 => ?_) (fun h4 => ?_)
        · have hm := cd_t h4 hm
          refine c_seq ?_
          refine c_region ?_
          refine o_L (y_assign rfl) rfl rfl ?_
          refine o_nil0 rfl ?_
          obtain ⟨c7, l8, hj3, hm⟩ := bd2 hm
          refine c_joinP (n := 1) (fun sh G => ∃ (g8 : List Chunk), sh = [(9, .int .i64 c7)] ∧ G = [g8] ∧ Own rBool v3 l8 g8) (s_take (s_take s_nil)) (.s .z) (fun _ _ h => h) ?_ ?_
          · skip
            refine c_block ?_
            refine c_loopP (n := 1) (fun mm sh G => ∃ (c6 : Int), ∃ (l7 : List Bool), ∃ (g7 : List Chunk), sh = [(9, .int .i64 c6)] ∧ G = [g7] ∧ m230_w3 n n_ c4 mm c6 l7 = some (c7, l8) ∧ Own rBool v3 l7 g7) n (s_take (s_take s_nil)) (.s .z) ⟨_, _, ⟨_, _, _, rfl, rfl, hj3, ho6⟩, ⟨rfl, trivial⟩, _, (s_take (s_take s_nil))⟩ ?_
            rintro mm sh G ⟨c6, l7, g7, rfl, rfl, hm, ho8⟩
            obtain ⟨mm3, rfl, hm⟩ := it2_s hm
            refine c_seq ?_
            refine c_seq ?_
            refine c_region ?_
            refine o_T (y_move rfl) rfl ?_
            refine o_T (y_move rfl) rfl ?_
            refine o_T (y_move rfl) rfl ?_
            obtain ⟨x4, hx7, hm⟩ := bd hm
            obtain ⟨b4, w3, cs3, y3, z3, vs3, hc3, ha3, hr5, hy4⟩ := hr1.ix hx7
            obtain ⟨v10, v11, rfl, hr6, hr7⟩ := hr5
            refine o_T (hy4 sl_55 rfl rfl rfl) rfl ?_
            refine o_T (y_fa fl_93_2 rfl) rfl ?_
            refine o_ld one_65 rfl (ms (mg hc3)) (At.getA (ha3.comp Node.a_parents)) rfl ?_
            refine o_T (y_lenR hr7 Tryz.underlying65 rfl) rfl ?_
            refine o_T (y_lss rfl rfl) rfl ?_
            refine o_nil1 49 rfl rfl ?_
            refine c_cond rfl (fun h5 => ?_) (fun h5 => ?_)
            · have hm := cd_t h5 hm
              refine c_skip ?_
              refine c_seq ?_
              refine c_block ?_
              refine c_seq ?_
              refine c_region ?_
              refine o_T (y_move rfl) rfl ?_
              refine o_T (y_move rfl) rfl ?_
              refine o_T (y_move rfl) rfl ?_
              obtain ⟨x5, hx8, hm⟩ := bd hm
              obtain ⟨b5, w4, cs4, y4, z4, vs4, hc4, ha4, hr8, hy5⟩ := hr1.ix hx8
              obtain ⟨v12, v13, rfl, hr9, hr10⟩ := hr8
              refine o_T (hy5 sl_55 rfl rfl rfl) rfl ?_
              refine o_T (y_fa fl_93_2 rfl) rfl ?_
              refine o_ld one_65 rfl (ms (mg hc4)) (At.getA (ha4.comp Node.a_parents)) rfl ?_
              refine o_T (y_move rfl) rfl ?_
              obtain ⟨x6, hx9, hm⟩ := bd hm
              obtain ⟨b6, w5, cs5, y5, z5, vs5, hc5, ha5, hr11, hy6⟩ := hr10.ix hx9
              obtain rfl : vs5 = (encI x6) := hr11
              refine o_T (hy6 sl_65 rfl rfl rfl) rfl ?_
              refine o_ld one_3 rfl (ms (mg hc5)) (At.getA (ha5)) rfl ?_
              obtain ⟨c8, hx10, hm⟩ := bd1 hm
              refine o_callC en_147 rfl s_nil (t147 (hr1.mono (fun _ hz => (ms (mg hz)))) hx10) rfl (fun u2 S2 hR2 => ?_)
              obtain ⟨rfl, rfl⟩ := hR2
              refine o_rest ?_
              refine o_L (y_assign rfl) rfl rfl ?_
              refine o_nil0 rfl ?_
              refine c_seq ?_
              refine c_region ?_
              refine o_T (y_move rfl) rfl ?_
              refine o_T (y_geq rfl rfl) rfl ?_
              refine o_nil1 63 rfl rfl ?_
              refine c_cond rfl (fun h6 => ?_) (fun h6 => ?_)
              · have hm := cd_t h6 hm
                refine c_region ?_
                refine o_T (y_move rfl) rfl ?_
                refine o_T (y_move rfl) rfl ?_
                obtain ⟨_, hi2, hm⟩ := bd hm
                have hi2 := ckA_some hi2
                obtain ⟨b7, cp2, hv2, hy7⟩ := ho8.ix hi2
                refine o_T (hy7 sl_241 rfl rfl rfl) rfl ?_
                obtain ⟨l9, hx12, hm⟩ := bd hm
                refine o_stO1 one_4 rfl rfl rfl rfl ho8 hv2 hx12 (fun _ => q0) (fun g9 ho10 => ?_)
                refine o_nil0 rfl ?_
                refine c_region ?_
                refine o_T (y_move rfl) rfl ?_
                refine o_T (y_add rfl rfl rfl) rfl ?_
                refine o_L (y_assign rfl) rfl rfl ?_
                refine o_nil0 rfl ?_
                exact ⟨mm3, Nat.lt_succ_self _, _, _, ⟨_, _, _, rfl, rfl, hm, ho10⟩, ⟨rfl, trivial⟩, ⟨rfl, rfl⟩, _, (s_take (s_take s_nil))⟩
              · have hm := cd_f h6 hm
                refine c_skip ?_
                refine c_region ?_
                refine o_T (y_move rfl) rfl ?_
                refine o_T (y_add rfl rfl rfl) rfl ?_
                refine o_L (y_assign rfl) rfl rfl ?_
                refine o_nil0 rfl ?_
                exact ⟨mm3, Nat.lt_succ_self _, _, _, ⟨_, _, _, rfl, rfl, hm, ho8⟩, ⟨rfl, trivial⟩, ⟨rfl, rfl⟩, _, (s_take (s_take s_nil))⟩
            · have hm := cd_f h5 hm
              refine c_exit ?_
              obtain ⟨rfl, rfl⟩ := pr2 hm
              exact ⟨_, _, ⟨_, rfl, rfl, ho8⟩, ⟨rfl, trivial⟩, ⟨rfl, rfl⟩, _, (s_take (s_take s_nil))⟩
          · rintro sh G ⟨g8, rfl, rfl, ho9⟩
            refine c_region ?_
            refine o_T (y_move rfl) rfl ?_
            refine o_T (y_sub rfl rfl rfl) rfl ?_
            refine o_L (y_assign rfl) rfl rfl ?_
            refine o_nil0 rfl ?_
            exact ⟨mm2, Nat.lt_succ_self _, _, _, ⟨_, _, _, rfl, rfl, hm, ho9⟩, ⟨rfl, trivial⟩, ⟨rfl, rfl⟩, _, (s_take (s_take s_nil))⟩
        · have hm := cd_f h4 hm
          refine c_skip ?_
          refine c_region ?_
          refine o_T (y_move rfl) rfl ?_
          refine o_T (y_sub rfl rfl rfl) rfl ?_
          refine o_L (y_assign rfl) rfl rfl ?_
          refine o_nil0 rfl ?_
          exact ⟨mm2, Nat.lt_succ_self _, _, _, ⟨_, _, _, rfl, rfl, hm, ho6⟩, ⟨rfl, trivial⟩, ⟨rfl, rfl⟩, _, (s_take (s_take s_nil))⟩
      · have hm := cd_f h3 hm
        refine c_exit ?_
        obtain ⟨rfl, rfl⟩ := pr2 hm
        exact ⟨_, _, ⟨_, rfl, rfl, ho6⟩, ⟨rfl, trivial⟩, ⟨rfl, rfl⟩, _, (s_take (s_take s_nil))⟩
    · rintro sh G ⟨g6, rfl, rfl, ho7⟩
      refine c_seq ?_
      refine c_region ?_
      refine o_T (y_move rfl) rfl ?_
      refine o_L (y_assign rfl) rfl rfl ?_
      refine o_nil0 rfl ?_
      refine c_ret ?_
      obtain rfl := p1 hm
      refine fun aX wX heX hsX => ret1 Tryz.results230 heX rfl (s_take (s_take s_nil)) ?_
      exact ⟨v3, _, rfl, rfl, ho7⟩
end Go.Proofs.Qxb6500350aGreat
