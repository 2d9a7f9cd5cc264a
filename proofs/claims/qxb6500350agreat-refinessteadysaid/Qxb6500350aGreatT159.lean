/- MADE BY PROGRAM (tools350/mir.py): mirror and walk. -/
import Derived.Test.Qxb6500350aGreatF2
import Derived.Test.Qxb6500350aGreatT117
import Derived.Test.Qxb6500350aGreatT118
import Derived.Test.Qxb6500350aGreatT231
import Derived.Test.Qxb6500350aGreatT232
import Derived.Test.Qxb6500350aGreatT233
set_option linter.unusedVariables false
set_option linter.unusedSimpArgs false
set_option maxRecDepth 20000
set_option maxHeartbeats 4000000
namespace Go.Proofs.Qxb6500350aGreat
open Go.Eng

/- api.MergeFiles -/
def m159_w1 (n : Nat) (base : (List File)) (mm : Nat) : (List File) → Int → Option ((List File) × Int) := it2 (fun lp1 l1 c1 =>
cond (decide (c1 < (base.length : Int))) (
Option.bind (ixL base c1) fun x1 =>
ob1 (m117 n l1 ({ File.zero with path := x1.path })) fun l3 =>
lp1 l3 (wi (c1 + 1))) (
some (l1, c1))) mm
def m159_w2 (n : Nat) (ours : (List File)) (mm : Nat) : (List File) → Int → Option ((List File) × Int) := it2 (fun lp2 l4 c3 =>
cond (decide (c3 < (ours.length : Int))) (
Option.bind (ixL ours c3) fun x2 =>
ob1 (m117 n l4 ({ File.zero with path := x2.path })) fun l6 =>
lp2 l6 (wi (c3 + 1))) (
some (l4, c3))) mm
def m159_w3 (n : Nat) (theirs : (List File)) (mm : Nat) : (List File) → Int → Option ((List File) × Int) := it2 (fun lp3 l7 c5 =>
cond (decide (c5 < (theirs.length : Int))) (
Option.bind (ixL theirs c5) fun x3 =>
ob1 (m117 n l7 ({ File.zero with path := x3.path })) fun l9 =>
lp3 l9 (wi (c5 + 1))) (
some (l7, c5))) mm
def m159_w4 (n : Nat) (base : (List File)) (ours : (List File)) (theirs : (List File)) (l8 : List File) (mm : Nat) : (List File) → Int → Int → Option ((List File) × Int × Int) := it3 (fun lp4 l10 c7 c8 =>
cond (decide (c8 < (l8.length : Int))) (
Option.bind (ixL l8 c8) fun x4 =>
ob1 (m118 n base x4.path) fun c11 =>
ob1 (m118 n ours x4.path) fun c12 =>
ob1 (m118 n theirs x4.path) fun c13 =>
ob1 (m231 n ours c12 theirs c13) fun c14 =>
ob1 (cond (!c14) (
ob1 (m231 n theirs c13 base c11) fun c16 =>
some c16) (
some c14)) fun c15 =>
cond c15 (
cond (decide ((0 : Int) ≤ c12)) (
Option.bind (ixL ours c12) fun x5 =>
Option.bind (apd l10 ({ File.zero with path := x4.path, data := x5.data })) fun l12 =>
lp4 l12 c7 (wi (c8 + 1))) (
lp4 l10 c7 (wi (c8 + 1)))) (
ob1 (m231 n ours c12 base c11) fun c17 =>
cond c17 (
cond (decide ((0 : Int) ≤ c13)) (
Option.bind (ixL theirs c13) fun x6 =>
Option.bind (apd l10 ({ File.zero with path := x4.path, data := x6.data })) fun l13 =>
lp4 l13 c7 (wi (c8 + 1))) (
lp4 l10 c7 (wi (c8 + 1)))) (
ob1 (m232 n base c11) fun c18 =>
ob1 (m232 n ours c12) fun c19 =>
ob1 (m232 n theirs c13) fun c20 =>
ob2 (m233 n c18 c19 c20) fun c21 c22 =>
cond (decide (c22 = 0)) (
Option.bind (apd l10 ({ File.zero with path := x4.path, data := c21 })) fun l14 =>
lp4 l14 c7 (wi (c8 + 1))) (
Option.bind (apd l10 ({ path := x4.path, data := c21, mode := 1 } : File)) fun l15 =>
lp4 l15 (wi (c7 + 1)) (wi (c8 + 1)))))) (
some (l10, c7, c8))) mm
def m159 (n : Nat) (base : (List File)) (ours : (List File)) (theirs : (List File)) : Option ((List File) × Int) :=
ob2 (m159_w1 n base n ([] : List File) 0) fun l2 c2 =>
ob2 (m159_w2 n ours n l2 0) fun l5 c4 =>
ob2 (m159_w3 n theirs n l5 0) fun l8 c6 =>
ob3 (m159_w4 n base ours theirs l8 n ([] : List File) 0 0) fun l11 c9 c10 =>
some (l11, c9)
theorem t159 {n : Nat} {C : List Chunk} {rl1 : List File} {rc1 : Int} {v1 : Value} {base : (List File)} {v2 : Value} {ours : (List File)} {v3 : Value} {theirs : (List File)} (hr1 : Rd rFile C v1 base) (hr2 : Rd rFile C v2 ours) (hr3 : Rd rFile C v3 theirs)  (hm : m159 n base ours theirs = some (rl1, rc1)) : Trip Tryz.prog 159 #[v1, v2, v3] ([] ++ [C]) (fun u S' => ∃ (ev1 : Value), ∃ (eg1 : List Chunk), .tuple #[ev1, .int .i64 rc1] = u ∧ S' = [eg1] ++ [C] ∧ Own rFile ev1 rl1 eg1) := by
  refine fn_entry (args := [v1, v2, v3]) Tryz.func159 rfl Tryz.ntmps159 rfl (fun w0 => ?_)
  refine c_seq ?_
  refine c_region ?_
  have ho1 : Own rFile (.slice none 0 0) [] [] := Own.nil
  refine o_emp ?_
  refine o_L (y_assign rfl) rfl rfl ?_
  refine o_L (y_assign rfl) rfl rfl ?_
  refine o_nil0 rfl ?_
  refine c_seq ?_
  refine c_region ?_
  have ho2 : Own rFile (.slice none 0 0) [] [] := Own.nil
  refine o_emp ?_
  refine o_L (y_assign rfl) rfl rfl ?_
  refine o_nil0 rfl ?_
  refine c_seq ?_
  refine c_seq ?_
  refine c_region ?_
  refine o_L (y_assign rfl) rfl rfl ?_
  refine o_nil0 rfl ?_
  obtain ⟨l2, c2, hj1, hm⟩ := bd2 hm
  refine c_joinP (n := 1) (fun sh G => ∃ (v5 : Value), ∃ (g2 : List Chunk), sh = [(8, v5), (9, .int .i64 c2)] ∧ G = [g2] ∧ Own rFile v5 l2 g2) (s_take (s_skip (s_take s_nil))) (.s .z) (fun _ _ h => h) ?_ ?_
  · skip
    refine c_block ?_
    refine c_loopP (n := 1) (fun mm sh G => ∃ (l1 : List File), ∃ (c1 : Int), ∃ (v4 : Value), ∃ (g1 : List Chunk), sh = [(8, v4), (9, .int .i64 c1)] ∧ G = [g1] ∧ m159_w1 n base mm l1 c1 = some (l2, c2) ∧ Own rFile v4 l1 g1) n (s_take (s_skip (s_take s_nil))) (.s .z) ⟨_, _, ⟨_, _, (.slice none 0 0), _, rfl, rfl, hj1, ho2⟩, ⟨rfl, rfl, trivial⟩, _, (s_take (s_skip (s_take s_nil)))⟩ ?_
    rintro mm sh G ⟨l1, c1, v4, g1, rfl, rfl, hm, ho3⟩
    obtain ⟨mm1, rfl, hm⟩ := it2_s hm
    refine c_seq ?_
    refine c_seq ?_
    refine c_region ?_
    refine o_T (y_move rfl) rfl ?_
    refine o_T (y_move rfl) rfl ?_
    refine o_T (y_lenR hr1 Tryz.underlying57 rfl) rfl ?_
    refine o_T (y_lss rfl rfl) rfl ?_
    refine o_nil1 28 rfl rfl ?_
    refine c_cond rfl (fun h1 => ?_) (fun h1 => ?_)
    · have hm := cd_t h1 hm
      refine c_skip ?_
      refine c_seq ?_
      refine c_block ?_
      refine c_region ?_
      refine o_T (y_move rfl) rfl ?_
      refine o_T (y_move rfl) rfl ?_
      refine o_T (y_move rfl) rfl ?_
      obtain ⟨x1, hx1, hm⟩ := bd hm
      obtain ⟨b1, w1, cs1, y1, z1, vs1, hc1, ha1, hr4, hy1⟩ := hr1.ix hx1
      obtain rfl : vs1 = File.enc x1 := hr4
      refine o_T (hy1 sl_57 rfl rfl rfl) rfl ?_
      refine o_T (y_fa fl_71_0 rfl) rfl ?_
      refine o_ld one_9 rfl (ms (mg hc1)) (At.getA (ha1.comp File.a_path)) rfl ?_
      refine o_T (y_build st_71 rfl (fbU rfl File.u_path rfl rfl fbU0)) rfl ?_
      obtain ⟨l3, hx2, hm⟩ := bd1 hm
      refine o_callC en_117 rfl s_nil (t117 (ho3.rd.mono (fun _ hz => (mg hz))) hx2) rfl (fun u1 S1 hR1 => ?_)
      obtain ⟨v6, g3, rfl, rfl, ho5⟩ := hR1
      refine o_rest ?_
      refine o_L (y_assign rfl) rfl rfl ?_
      refine o_nil0 rfl ?_
      refine c_region ?_
      refine o_T (y_move rfl) rfl ?_
      refine o_T (y_add rfl rfl rfl) rfl ?_
      refine o_L (y_assign rfl) rfl rfl ?_
      refine o_nil0 rfl ?_
      exact ⟨mm1, Nat.lt_succ_self _, _, _, ⟨_, _, v6, _, rfl, rfl, hm, ho5⟩, ⟨rfl, rfl, trivial⟩, ⟨rfl, rfl⟩, _, (s_take (s_skip (s_take s_nil)))⟩
    · have hm := cd_f h1 hm
      refine c_exit ?_
      obtain ⟨rfl, rfl⟩ := pr2 hm
      exact ⟨_, _, ⟨v4, _, rfl, rfl, ho3⟩, ⟨rfl, rfl, trivial⟩, ⟨rfl, rfl⟩, _, (s_take (s_take s_nil))⟩
  · rintro sh G ⟨v5, g2, rfl, rfl, ho4⟩
    refine c_seq ?_
    refine c_seq ?_
    refine c_region ?_
    refine o_L (y_assign rfl) rfl rfl ?_
    refine o_nil0 rfl ?_
    obtain ⟨l5, c4, hj2, hm⟩ := bd2 hm
    refine c_joinP (n := 1) (fun sh G => ∃ (v8 : Value), ∃ (g5 : List Chunk), sh = [(8, v8), (10, .int .i64 c4)] ∧ G = [g5] ∧ Own rFile v8 l5 g5) (s_take (s_take s_nil)) (.s .z) (fun _ _ h => h) ?_ ?_
    · skip
      refine c_block ?_
      refine c_loopP (n := 1) (fun mm sh G => ∃ (l4 : List File), ∃ (c3 : Int), ∃ (v7 : Value), ∃ (g4 : List Chunk), sh = [(8, v7), (10, .int .i64 c3)] ∧ G = [g4] ∧ m159_w2 n ours mm l4 c3 = some (l5, c4) ∧ Own rFile v7 l4 g4) n (s_take (s_take s_nil)) (.s .z) ⟨_, _, ⟨_, _, v5, _, rfl, rfl, hj2, ho4⟩, ⟨rfl, rfl, trivial⟩, _, (s_take (s_take s_nil))⟩ ?_
      rintro mm sh G ⟨l4, c3, v7, g4, rfl, rfl, hm, ho6⟩
      obtain ⟨mm2, rfl, hm⟩ := it2_s hm
      refine c_seq ?_
      refine c_seq ?_
      refine c_region ?_
      refine o_T (y_move rfl) rfl ?_
      refine o_T (y_move rfl) rfl ?_
      refine o_T (y_lenR hr2 Tryz.underlying57 rfl) rfl ?_
      refine o_T (y_lss rfl rfl) rfl ?_
      refine o_nil1 42 rfl rfl ?_
      refine c_cond rfl (fun h2 => ?_) (fun h2 => ?_)
      · have hm := cd_t h2 hm
        refine c_skip ?_
        refine c_seq ?_
        refine c_block ?_
        refine c_region ?_
        refine o_T (y_move rfl) rfl ?_
        refine o_T (y_move rfl) rfl ?_
        refine o_T (y_move rfl) rfl ?_
        obtain ⟨x2, hx3, hm⟩ := bd hm
        obtain ⟨b2, w2, cs2, y2, z2, vs2, hc2, ha2, hr5, hy2⟩ := hr2.ix hx3
        obtain rfl : vs2 = File.enc x2 := hr5
        refine o_T (hy2 sl_57 rfl rfl rfl) rfl ?_
        refine o_T (y_fa fl_71_0 rfl) rfl ?_
        refine o_ld one_9 rfl (ms (mg hc2)) (At.getA (ha2.comp File.a_path)) rfl ?_
        refine o_T (y_build st_71 rfl (fbU rfl File.u_path rfl rfl fbU0)) rfl ?_
        obtain ⟨l6, hx4, hm⟩ := bd1 hm
        refine o_callC en_117 rfl s_nil (t117 (ho6.rd.mono (fun _ hz => (mg hz))) hx4) rfl (fun u2 S2 hR2 => ?_)
        obtain ⟨v9, g6, rfl, rfl, ho8⟩ := hR2
        refine o_rest ?_
        refine o_L (y_assign rfl) rfl rfl ?_
        refine o_nil0 rfl ?_
        refine c_region ?_
        refine o_T (y_move rfl) rfl ?_
        refine o_T (y_add rfl rfl rfl) rfl ?_
        refine o_L (y_assign rfl) rfl rfl ?_
        refine o_nil0 rfl ?_
        exact ⟨mm2, Nat.lt_succ_self _, _, _, ⟨_, _, v9, _, rfl, rfl, hm, ho8⟩, ⟨rfl, rfl, trivial⟩, ⟨rfl, rfl⟩, _, (s_take (s_skip (s_take s_nil)))⟩
      · have hm := cd_f h2 hm
        refine c_exit ?_
        obtain ⟨rfl, rfl⟩ := pr2 hm
        exact ⟨_, _, ⟨v7, _, rfl, rfl, ho6⟩, ⟨rfl, rfl, trivial⟩, ⟨rfl, rfl⟩, _, (s_take (s_take s_nil))⟩
    · rintro sh G ⟨v8, g5, rfl, rfl, ho7⟩
      refine c_seq ?_
      refine c_seq ?_
      refine c_region ?_
      refine o_L (y_assign rfl) rfl rfl ?_
      refine o_nil0 rfl ?_
      obtain ⟨l8, c6, hj3, hm⟩ := bd2 hm
      refine c_joinP (n := 1) (fun sh G => ∃ (v11 : Value), ∃ (g8 : List Chunk), sh = [(8, v11), (11, .int .i64 c6)] ∧ G = [g8] ∧ Own rFile v11 l8 g8) (s_take (s_take s_nil)) (.s .z) (fun _ _ h => h) ?_ ?_
      · skip
        refine c_block ?_
        refine c_loopP (n := 1) (fun mm sh G => ∃ (l7 : List File), ∃ (c5 : Int), ∃ (v10 : Value), ∃ (g7 : List Chunk), sh = [(8, v10), (11, .int .i64 c5)] ∧ G = [g7] ∧ m159_w3 n theirs mm l7 c5 = some (l8, c6) ∧ Own rFile v10 l7 g7) n (s_take (s_take s_nil)) (.s .z) ⟨_, _, ⟨_, _, v8, _, rfl, rfl, hj3, ho7⟩, ⟨rfl, rfl, trivial⟩, _, (s_take (s_take s_nil))⟩ ?_
        rintro mm sh G ⟨l7, c5, v10, g7, rfl, rfl, hm, ho9⟩
        obtain ⟨mm3, rfl, hm⟩ := it2_s hm
        refine c_seq ?_
        refine c_seq ?_
        refine c_region ?_
        refine o_T (y_move rfl) rfl ?_
        refine o_T (y_move rfl) rfl ?_
        refine o_T (y_lenR hr3 Tryz.underlying57 rfl) rfl ?_
        refine o_T (y_lss rfl rfl) rfl ?_
        refine o_nil1 56 rfl rfl ?_
        refine c_cond rfl (fun h3 => ?_) (fun h3 => ?_)
        · have hm := cd_t h3 hm
          refine c_skip ?_
          refine c_seq ?_
          refine c_block ?_
          refine c_region ?_
          refine o_T (y_move rfl) rfl ?_
          refine o_T (y_move rfl) rfl ?_
          refine o_T (y_move rfl) rfl ?_
          obtain ⟨x3, hx5, hm⟩ := bd hm
          obtain ⟨b3, w3, cs3, y3, z3, vs3, hc3, ha3, hr6, hy3⟩ := hr3.ix hx5
          obtain rfl : vs3 = File.enc x3 := hr6
          refine o_T (hy3 sl_57 rfl rfl rfl) rfl ?_
          refine o_T (y_fa fl_71_0 rfl) rfl ?_
          refine o_ld one_9 rfl (ms (mg hc3)) (At.getA (ha3.comp File.a_path)) rfl ?_
          refine o_T (y_build st_71 rfl (fbU rfl File.u_path rfl rfl fbU0)) rfl ?_
          obtain ⟨l9, hx6, hm⟩ := bd1 hm
          refine o_callC en_117 rfl s_nil (t117 (ho9.rd.mono (fun _ hz => (mg hz))) hx6) rfl (fun u3 S3 hR3 => ?_)
          obtain ⟨v12, g9, rfl, rfl, ho11⟩ := hR3
          refine o_rest ?_
          refine o_L (y_assign rfl) rfl rfl ?_
          refine o_nil0 rfl ?_
          refine c_region ?_
          refine o_T (y_move rfl) rfl ?_
          refine o_T (y_add rfl rfl rfl) rfl ?_
          refine o_L (y_assign rfl) rfl rfl ?_
          refine o_nil0 rfl ?_
          exact ⟨mm3, Nat.lt_succ_self _, _, _, ⟨_, _, v12, _, rfl, rfl, hm, ho11⟩, ⟨rfl, rfl, trivial⟩, ⟨rfl, rfl⟩, _, (s_take (s_skip (s_take s_nil)))⟩
        · have hm := cd_f h3 hm
          refine c_exit ?_
          obtain ⟨rfl, rfl⟩ := pr2 hm
          exact ⟨_, _, ⟨v10, _, rfl, rfl, ho9⟩, ⟨rfl, rfl, trivial⟩, ⟨rfl, rfl⟩, _, (s_take (s_take s_nil))⟩
      · rintro sh G ⟨v11, g8, rfl, rfl, ho10⟩
        refine c_seq ?_
        refine c_region ?_
        have ho12 : Own rFile (.slice none 0 0) [] [] := Own.nil
        refine o_emp ?_
        refine o_L (y_assign rfl) rfl rfl ?_
        refine o_nil0 rfl ?_
        refine c_seq ?_
        refine c_region ?_
        refine o_L (y_assign rfl) rfl rfl ?_
        refine o_nil0 rfl ?_
        refine c_seq ?_
        refine c_seq ?_
        refine c_region ?_
        refine o_L (y_assign rfl) rfl rfl ?_
        refine o_nil0 rfl ?_
        obtain ⟨l11, c9, c10, hj4, hm⟩ := bd3 hm
        refine c_joinP (n := 1) (fun sh G => ∃ (v14 : Value), ∃ (g11 : List Chunk), sh = [(12, v14), (13, .int .i64 c9), (14, .int .i64 c10)] ∧ G = [g11] ∧ Own rFile v14 l11 g11) (s_take (s_take (s_take s_nil))) (.s .z) (fun _ _ h => h) ?_ ?_
        · skip
          refine c_block ?_
          refine c_loopP (n := 1) (fun mm sh G => ∃ (l10 : List File), ∃ (c7 : Int), ∃ (c8 : Int), ∃ (v13 : Value), ∃ (g10 : List Chunk), sh = [(12, v13), (13, .int .i64 c7), (14, .int .i64 c8)] ∧ G = [g10] ∧ m159_w4 n base ours theirs l8 mm l10 c7 c8 = some (l11, c9, c10) ∧ Own rFile v13 l10 g10) n (s_take (s_take (s_take s_nil))) (.s .z) ⟨_, _, ⟨_, _, _, (.slice none 0 0), _, rfl, rfl, hj4, ho12⟩, ⟨rfl, rfl, rfl, trivial⟩, _, (s_take (s_take (s_take s_nil)))⟩ ?_
          rintro mm sh G ⟨l10, c7, c8, v13, g10, rfl, rfl, hm, ho13⟩
          obtain ⟨mm4, rfl, hm⟩ := it3_s hm
          refine c_seq ?_
          refine c_seq ?_
          refine c_region ?_
          refine o_T (y_move rfl) rfl ?_
          refine o_T (y_move rfl) rfl ?_
          refine o_T (y_lenR ho10.rd Tryz.underlying57 rfl) rfl ?_
          refine o_T (y_lss rfl rfl) rfl ?_
          refine o_nil1 70 rfl rfl ?_
          refine c_cond rfl (fun h4 => ?_) (fun h4 => ?_)
          · have hm := cd_t h4 hm
            refine c_skip ?_
            refine c_seq ?_
            refine c_block ?_
            refine c_seq ?_
            refine c_region ?_
            refine o_T (y_move rfl) rfl ?_
            refine o_T (y_move rfl) rfl ?_
            obtain ⟨x4, hx7, hm⟩ := bd hm
            obtain ⟨b4, w4, cs4, y4, z4, vs4, hc4, ha4, hr7, hy4⟩ := ho10.rd.ix hx7
            obtain rfl : vs4 = File.enc x4 := hr7
            refine o_T (hy4 sl_57 rfl rfl rfl) rfl ?_
            refine o_T (y_fa fl_71_0 rfl) rfl ?_
            refine o_ld one_9 rfl (ms (mg hc4)) (At.getA (ha4.comp File.a_path)) rfl ?_
            refine o_L (y_assign rfl) rfl rfl ?_
            refine o_nil0 rfl ?_
            refine c_seq ?_
            refine c_region ?_
            refine o_T (y_move rfl) rfl ?_
            refine o_T (y_move rfl) rfl ?_
            obtain ⟨c11, hx8, hm⟩ := bd1 hm
            refine o_callC en_118 rfl s_nil (t118 (hr1.mono (fun _ hz => (ms (ms (mg hz))))) hx8) rfl (fun u4 S4 hR4 => ?_)
            obtain ⟨rfl, rfl⟩ := hR4
            refine o_rest ?_
            refine o_L (y_assign rfl) rfl rfl ?_
            refine o_nil0 rfl ?_
            refine c_seq ?_
            refine c_region ?_
            refine o_T (y_move rfl) rfl ?_
            refine o_T (y_move rfl) rfl ?_
            obtain ⟨c12, hx9, hm⟩ := bd1 hm
            refine o_callC en_118 rfl s_nil (t118 (hr2.mono (fun _ hz => (ms (ms (mg hz))))) hx9) rfl (fun u5 S5 hR5 => ?_)
            obtain ⟨rfl, rfl⟩ := hR5
            refine o_rest ?_
            refine o_L (y_assign rfl) rfl rfl ?_
            refine o_nil0 rfl ?_
            refine c_seq ?_
            refine c_region ?_
            refine o_T (y_move rfl) rfl ?_
            refine o_T (y_move rfl) rfl ?_
            obtain ⟨c13, hx10, hm⟩ := bd1 hm
            refine o_callC en_118 rfl s_nil (t118 (hr3.mono (fun _ hz => (ms (ms (mg hz))))) hx10) rfl (fun u6 S6 hR6 => ?_)
            obtain ⟨rfl, rfl⟩ := hR6
            refine o_rest ?_
            refine o_L (y_assign rfl) rfl rfl ?_
            refine o_nil0 rfl ?_
            refine c_seq ?_
            refine c_region ?_
            refine o_T (y_move rfl) rfl ?_
            refine o_T (y_move rfl) rfl ?_
            refine o_T (y_move rfl) rfl ?_
            refine o_T (y_move rfl) rfl ?_
            obtain ⟨c14, hx11, hm⟩ := bd1 hm
            refine o_callC en_231 rfl s_nil (t231 (hr2.mono (fun _ hz => (ms (ms (mg hz))))) (hr3.mono (fun _ hz => (ms (ms (mg hz))))) hx11) rfl (fun u7 S7 hR7 => ?_)
            obtain ⟨rfl, rfl⟩ := hR7
            refine o_rest ?_
            refine o_L (y_assign rfl) rfl rfl ?_
            refine o_nil0 rfl ?_
            refine c_seq ?_
            refine c_seq ?_
            refine c_region ?_
            refine o_T (y_move rfl) rfl ?_
            refine o_T (y_not rfl) rfl ?_
            refine o_nil1 93 rfl rfl ?_
            obtain ⟨c15, hj5, hm⟩ := bd1 hm
            refine c_joinP (n := 0) (fun sh G => sh = [(19, .bool c15)] ∧ G = []) (s_take (s_take (s_take s_nil))) .z (fun _ _ h => h) ?_ ?_
            · have hm := hj5
              refine c_cond rfl (fun h5 => ?_) (fun h5 => ?_)
              · have hm := cd_t h5 hm
                refine c_region ?_
                refine o_T (y_move rfl) rfl ?_
                refine o_T (y_move rfl) rfl ?_
                refine o_T (y_move rfl) rfl ?_
                refine o_T (y_move rfl) rfl ?_
                obtain ⟨c16, hx12, hm⟩ := bd1 hm
                refine o_callC en_231 rfl s_nil (t231 (hr3.mono (fun _ hz => (ms (ms (mg hz))))) (hr1.mono (fun _ hz => (ms (ms (mg hz))))) hx12) rfl (fun u8 S8 hR8 => ?_)
                obtain ⟨rfl, rfl⟩ := hR8
                refine o_rest ?_
                refine o_L (y_assign rfl) rfl rfl ?_
                refine o_nil0 rfl ?_
                obtain rfl := p1 hm
                exact ⟨_, _, ⟨rfl, rfl⟩, ⟨rfl, trivial⟩, ⟨rfl, rfl⟩, _, (s_take (s_take (s_take s_nil)))⟩
              · have hm := cd_f h5 hm
                refine c_skip ?_
                obtain rfl := p1 hm
                exact ⟨_, _, ⟨rfl, rfl⟩, ⟨rfl, trivial⟩, ⟨rfl, rfl⟩, _, (s_take (s_take (s_take s_nil)))⟩
            · rintro sh G ⟨rfl, rfl⟩
              refine c_seq ?_
              refine c_region ?_
              refine o_T (y_move rfl) rfl ?_
              refine o_nil1 99 rfl rfl ?_
              refine c_cond rfl (fun h6 => ?_) (fun h6 => ?_)
              · have hm := cd_t h6 hm
                refine c_seq ?_
                refine c_region ?_
                refine o_T (y_move rfl) rfl ?_
                refine o_T (y_geq rfl rfl) rfl ?_
                refine o_nil1 101 rfl rfl ?_
                refine c_cond rfl (fun h7 => ?_) (fun h7 => ?_)
                · have hm := cd_t h7 hm
                  refine c_region ?_
                  refine o_T (y_move rfl) rfl ?_
                  refine o_T (y_move rfl) rfl ?_
                  refine o_T (y_move rfl) rfl ?_
                  refine o_T (y_move rfl) rfl ?_
                  obtain ⟨x5, hx13, hm⟩ := bd hm
                  obtain ⟨b5, w5, cs5, y5, z5, vs5, hc5, ha5, hr8, hy5⟩ := hr2.ix hx13
                  obtain rfl : vs5 = File.enc x5 := hr8
                  refine o_T (hy5 sl_57 rfl rfl rfl) rfl ?_
                  refine o_T (y_fa fl_71_1 rfl) rfl ?_
                  refine o_ld one_9 rfl (ms (ms (mg hc5))) (At.getA (ha5.comp File.a_data)) rfl ?_
                  refine o_T (y_build st_71 rfl (fbU rfl File.u_path rfl rfl (fbU rfl File.u_data rfl rfl fbU0))) rfl ?_
                  refine o_bs1 sz_57 rfl rfl rfl rfl rfl rfl (fun b6 => ?_)
                  obtain ⟨l12, hx14, hm⟩ := bd hm
                  refine o_appR (R := rFile) (a := ({ File.zero with path := x4.path, data := x5.data })) sz_57 rfl rfl rfl rfl ho13 rfl hx14 (Sel.e (s_get (ks k0) (s_take s_nil))) rfl (fun v15 g12 ho15 => ?_)
                  refine o_L (y_assign rfl) rfl rfl ?_
                  refine o_nil0 rfl ?_
                  refine c_region ?_
                  refine o_T (y_move rfl) rfl ?_
                  refine o_T (y_add rfl rfl rfl) rfl ?_
                  refine o_L (y_assign rfl) rfl rfl ?_
                  refine o_nil0 rfl ?_
                  exact ⟨mm4, Nat.lt_succ_self _, _, _, ⟨_, _, _, v15, _, rfl, rfl, hm, ho15⟩, ⟨rfl, rfl, rfl, trivial⟩, ⟨rfl, rfl⟩, _, (s_take (s_take (s_take s_nil)))⟩
                · have hm := cd_f h7 hm
                  refine c_skip ?_
                  refine c_region ?_
                  refine o_T (y_move rfl) rfl ?_
                  refine o_T (y_add rfl rfl rfl) rfl ?_
                  refine o_L (y_assign rfl) rfl rfl ?_
                  refine o_nil0 rfl ?_
                  exact ⟨mm4, Nat.lt_succ_self _, _, _, ⟨_, _, _, v13, _, rfl, rfl, hm, ho13⟩, ⟨rfl, rfl, rfl, trivial⟩, ⟨rfl, rfl⟩, _, (s_take (s_take (s_take s_nil)))⟩
              · have hm := cd_f h6 hm
                refine c_seq ?_
                refine c_region ?_
                refine o_T (y_move rfl) rfl ?_
                refine o_T (y_move rfl) rfl ?_
                refine o_T (y_move rfl) rfl ?_
                refine o_T (y_move rfl) rfl ?_
                obtain ⟨c17, hx15, hm⟩ := bd1 hm
                refine o_callC en_231 rfl s_nil (t231 (hr2.mono (fun _ hz => (ms (ms (mg hz))))) (hr1.mono (fun _ hz => (ms (ms (mg hz))))) hx15) rfl (fun u9 S9 hR9 => ?_)
                obtain ⟨rfl, rfl⟩ := hR9
                refine o_rest ?_
                refine o_nil1 116 rfl rfl ?_
                refine c_cond rfl (fun h8 => ?_) (fun h8 => ?_)
                · have hm := cd_t h8 hm
                  refine c_seq ?_
                  refine c_region ?_
                  refine o_T (y_move rfl) rfl ?_
                  refine o_T (y_geq rfl rfl) rfl ?_
                  refine o_nil1 118 rfl rfl ?_
                  refine c_cond rfl (fun h9 => ?_) (fun h9 => ?_)
                  · have hm := cd_t h9 hm
                    refine c_region ?_
                    refine o_T (y_move rfl) rfl ?_
                    refine o_T (y_move rfl) rfl ?_
                    refine o_T (y_move rfl) rfl ?_
                    refine o_T (y_move rfl) rfl ?_
                    obtain ⟨x6, hx16, hm⟩ := bd hm
                    obtain ⟨b7, w6, cs6, y6, z6, vs6, hc6, ha6, hr9, hy6⟩ := hr3.ix hx16
                    obtain rfl : vs6 = File.enc x6 := hr9
                    refine o_T (hy6 sl_57 rfl rfl rfl) rfl ?_
                    refine o_T (y_fa fl_71_1 rfl) rfl ?_
                    refine o_ld one_9 rfl (ms (ms (mg hc6))) (At.getA (ha6.comp File.a_data)) rfl ?_
                    refine o_T (y_build st_71 rfl (fbU rfl File.u_path rfl rfl (fbU rfl File.u_data rfl rfl fbU0))) rfl ?_
                    refine o_bs1 sz_57 rfl rfl rfl rfl rfl rfl (fun b8 => ?_)
                    obtain ⟨l13, hx17, hm⟩ := bd hm
                    refine o_appR (R := rFile) (a := ({ File.zero with path := x4.path, data := x6.data })) sz_57 rfl rfl rfl rfl ho13 rfl hx17 (Sel.e (s_get (ks k0) (s_take s_nil))) rfl (fun v16 g13 ho16 => ?_)
                    refine o_L (y_assign rfl) rfl rfl ?_
                    refine o_nil0 rfl ?_
                    refine c_region ?_
                    refine o_T (y_move rfl) rfl ?_
                    refine o_T (y_add rfl rfl rfl) rfl ?_
                    refine o_L (y_assign rfl) rfl rfl ?_
                    refine o_nil0 rfl ?_
                    exact ⟨mm4, Nat.lt_succ_self _, _, _, ⟨_, _, _, v16, _, rfl, rfl, hm, ho16⟩, ⟨rfl, rfl, rfl, trivial⟩, ⟨rfl, rfl⟩, _, (s_take (s_take (s_take s_nil)))⟩
                  · have hm := cd_f h9 hm
                    refine c_skip ?_
                    refine c_region ?_
                    refine o_T (y_move rfl) rfl ?_
                    refine o_T (y_add rfl rfl rfl) rfl ?_
                    refine o_L (y_assign rfl) rfl rfl ?_
                    refine o_nil0 rfl ?_
                    exact ⟨mm4, Nat.lt_succ_self _, _, _, ⟨_, _, _, v13, _, rfl, rfl, hm, ho13⟩, ⟨rfl, rfl, rfl, trivial⟩, ⟨rfl, rfl⟩, _, (s_take (s_take (s_take s_nil)))⟩
                · have hm := cd_f h8 hm
                  refine c_seq ?_
                  refine c_region ?_
                  refine o_T (y_move rfl) rfl ?_
                  refine o_T (y_move rfl) rfl ?_
                  obtain ⟨c18, hx18, hm⟩ := bd1 hm
                  refine o_callC en_232 rfl s_nil (t232 (hr1.mono (fun _ hz => (ms (ms (mg hz))))) hx18) rfl (fun u10 S10 hR10 => ?_)
                  obtain ⟨rfl, rfl⟩ := hR10
                  refine o_rest ?_
                  refine o_L (y_assign rfl) rfl rfl ?_
                  refine o_nil0 rfl ?_
                  refine c_seq ?_
                  refine c_region ?_
                  refine o_T (y_move rfl) rfl ?_
                  refine o_T (y_move rfl) rfl ?_
                  obtain ⟨c19, hx19, hm⟩ := bd1 hm
                  refine o_callC en_232 rfl s_nil (t232 (hr2.mono (fun _ hz => (ms (ms (mg hz))))) hx19) rfl (fun u11 S11 hR11 => ?_)
                  obtain ⟨rfl, rfl⟩ := hR11
                  refine o_rest ?_
                  refine o_L (y_assign rfl) rfl rfl ?_
                  refine o_nil0 rfl ?_
                  refine c_seq ?_
                  refine c_region ?_
                  refine o_T (y_move rfl) rfl ?_
                  refine o_T (y_move rfl) rfl ?_
                  obtain ⟨c20, hx20, hm⟩ := bd1 hm
                  refine o_callC en_232 rfl s_nil (t232 (hr3.mono (fun _ hz => (ms (ms (mg hz))))) hx20) rfl (fun u12 S12 hR12 => ?_)
                  obtain ⟨rfl, rfl⟩ := hR12
                  refine o_rest ?_
                  refine o_L (y_assign rfl) rfl rfl ?_
                  refine o_nil0 rfl ?_
                  refine c_seq ?_
                  refine c_region ?_
                  refine o_T (y_move rfl) rfl ?_
                  refine o_T (y_move rfl) rfl ?_
                  refine o_T (y_move rfl) rfl ?_
                  obtain ⟨c21, c22, hx21, hm⟩ := bd2 hm
                  refine o_callC en_233 rfl s_nil (t233 hx21) rfl (fun u13 S13 hR13 => ?_)
                  obtain ⟨rfl, rfl⟩ := hR13
                  refine o_rest ?_
                  refine o_T (y_move rfl) rfl ?_
                  refine o_T (y_extract rfl rfl) rfl ?_
                  refine o_T (y_extract rfl rfl) rfl ?_
                  refine o_L (y_assign rfl) rfl rfl ?_
                  refine o_L (y_assign rfl) rfl rfl ?_
                  refine o_nil0 rfl ?_
                  refine c_seq ?_
                  refine c_region ?_
                  refine o_T (y_move rfl) rfl ?_
                  refine o_T (y_eql rfl rfl) rfl ?_
                  refine o_nil1 146 rfl rfl ?_
                  refine c_cond rfl (fun h10 => ?_) (fun h10 => ?_)
                  · have hm := cd_t h10 hm
                    refine c_region ?_
                    refine o_T (y_move rfl) rfl ?_
                    refine o_T (y_move rfl) rfl ?_
                    refine o_T (y_move rfl) rfl ?_
                    refine o_T (y_build st_71 rfl (fbU rfl File.u_path rfl rfl (fbU rfl File.u_data rfl rfl fbU0))) rfl ?_
                    refine o_bs1 sz_57 rfl rfl rfl rfl rfl rfl (fun b9 => ?_)
                    obtain ⟨l14, hx22, hm⟩ := bd hm
                    refine o_appR (R := rFile) (a := ({ File.zero with path := x4.path, data := c21 })) sz_57 rfl rfl rfl rfl ho13 rfl hx22 (Sel.e (s_get (ks k0) (s_take s_nil))) rfl (fun v17 g14 ho17 => ?_)
                    refine o_L (y_assign rfl) rfl rfl ?_
                    refine o_nil0 rfl ?_
                    refine c_region ?_
                    refine o_T (y_move rfl) rfl ?_
                    refine o_T (y_add rfl rfl rfl) rfl ?_
                    refine o_L (y_assign rfl) rfl rfl ?_
                    refine o_nil0 rfl ?_
                    exact ⟨mm4, Nat.lt_succ_self _, _, _, ⟨_, _, _, v17, _, rfl, rfl, hm, ho17⟩, ⟨rfl, rfl, rfl, trivial⟩, ⟨rfl, rfl⟩, _, (s_take (s_take (s_take s_nil)))⟩
                  · have hm := cd_f h10 hm
                    refine c_seq ?_
                    refine c_region ?_
                    refine o_T (y_move rfl) rfl ?_
                    refine o_T (y_move rfl) rfl ?_
                    refine o_T (y_move rfl) rfl ?_
                    refine o_T (y_build st_71 rfl (fbU rfl File.u_path rfl rfl (fbU rfl File.u_data rfl rfl (fbU rfl File.u_mode rfl rfl fbU0)))) rfl ?_
                    refine o_bs1 sz_57 rfl rfl rfl rfl rfl rfl (fun b10 => ?_)
                    obtain ⟨l15, hx23, hm⟩ := bd hm
                    refine o_appR (R := rFile) (a := ({ path := x4.path, data := c21, mode := 1 } : File)) sz_57 rfl rfl rfl rfl ho13 rfl hx23 (Sel.e (s_get (ks k0) (s_take s_nil))) rfl (fun v18 g15 ho18 => ?_)
                    refine o_L (y_assign rfl) rfl rfl ?_
                    refine o_nil0 rfl ?_
                    refine c_region ?_
                    refine o_T (y_move rfl) rfl ?_
                    refine o_T (y_add rfl rfl rfl) rfl ?_
                    refine o_L (y_assign rfl) rfl rfl ?_
                    refine o_nil0 rfl ?_
                    refine c_region ?_
                    refine o_T (y_move rfl) rfl ?_
                    refine o_T (y_add rfl rfl rfl) rfl ?_
                    refine o_L (y_assign rfl) rfl rfl ?_
                    refine o_nil0 rfl ?_
                    exact ⟨mm4, Nat.lt_succ_self _, _, _, ⟨_, _, _, v18, _, rfl, rfl, hm, ho18⟩, ⟨rfl, rfl, rfl, trivial⟩, ⟨rfl, rfl⟩, _, (s_take (s_take (s_take s_nil)))⟩
          · have hm := cd_f h4 hm
            refine c_exit ?_
            obtain ⟨rfl, rfl, rfl⟩ := pr3 hm
            exact ⟨_, _, ⟨v13, _, rfl, rfl, ho13⟩, ⟨rfl, rfl, rfl, trivial⟩, ⟨rfl, rfl⟩, _, (s_take (s_take (s_take s_nil)))⟩
        · rintro sh G ⟨v14, g11, rfl, rfl, ho14⟩
          refine c_seq ?_
          refine c_region ?_
          refine o_T (y_move rfl) rfl ?_
          refine o_T (y_move rfl) rfl ?_
          refine o_L (y_assign rfl) rfl rfl ?_
          refine o_L (y_assign rfl) rfl rfl ?_
          refine o_nil0 rfl ?_
          refine c_ret ?_
          obtain ⟨rfl, rfl⟩ := pr2 hm
          refine fun aX wX heX hsX => ret2 Tryz.results159 heX rfl rfl (s_take (s_skip (s_take s_nil))) ?_
          exact ⟨v14, _, rfl, rfl, ho14⟩
end Go.Proofs.Qxb6500350aGreat
