/- MADE BY PROGRAM (tools350/mir.py): mirror and walk. -/
import Derived.Test.Qxb6500350aGreatF2
import Derived.Test.Qxb6500350aGreatT117
import Derived.Test.Qxb6500350aGreatT118
import Derived.Test.Qxb6500350aGreatT252
set_option linter.unusedVariables false
set_option linter.unusedSimpArgs false
set_option maxRecDepth 20000
set_option maxHeartbeats 4000000
namespace Go.Proofs.Qxb6500350aGreat
open Go.Eng

/- api.StatusOf -/
def m180_w1 (n : Nat) (head : (List File)) (mm : Nat) : (List File) → Int → Option ((List File) × Int) := it2 (fun lp1 l1 c1 =>
cond (decide (c1 < (head.length : Int))) (
Option.bind (ixL head c1) fun x1 =>
ob1 (m117 n l1 ({ File.zero with path := x1.path })) fun l3 =>
lp1 l3 (wi (c1 + 1))) (
some (l1, c1))) mm
def m180_w2 (n : Nat) (index : (List File)) (mm : Nat) : (List File) → Int → Option ((List File) × Int) := it2 (fun lp2 l4 c3 =>
cond (decide (c3 < (index.length : Int))) (
Option.bind (ixL index c3) fun x2 =>
ob1 (m117 n l4 ({ File.zero with path := x2.path })) fun l6 =>
lp2 l6 (wi (c3 + 1))) (
some (l4, c3))) mm
def m180_w3 (n : Nat) (work : (List File)) (mm : Nat) : (List File) → Int → Option ((List File) × Int) := it2 (fun lp3 l7 c5 =>
cond (decide (c5 < (work.length : Int))) (
Option.bind (ixL work c5) fun x3 =>
ob1 (m117 n l7 ({ File.zero with path := x3.path })) fun l9 =>
lp3 l9 (wi (c5 + 1))) (
some (l7, c5))) mm
def m180_w4 (n : Nat) (head : (List File)) (index : (List File)) (work : (List File)) (l8 : List File) (mm : Nat) : (List Chg) → Int → Option ((List Chg) × Int) := it2 (fun lp4 l10 c7 =>
cond (decide (c7 < (l8.length : Int))) (
Option.bind (ixL l8 c7) fun x4 =>
ob1 (m118 n head x4.path) fun c9 =>
ob1 (m118 n index x4.path) fun c10 =>
ob1 (m118 n work x4.path) fun c11 =>
ob1 (m252 n head c9 index c10 true) fun c12 =>
ob1 (m252 n index c10 work c11 false) fun c13 =>
nm (({ path := x4.path, staged := c12, work := c13 } : Chg) : Chg) fun z5 =>
cond ((decide (¬ (z5.staged = 0))) || (decide (¬ (z5.work = 0)))) (
Option.bind (apd l10 z5) fun l12 =>
lp4 l12 (wi (c7 + 1))) (
lp4 l10 (wi (c7 + 1)))) (
some (l10, c7))) mm
def m180 (n : Nat) (head : (List File)) (index : (List File)) (work : (List File)) : Option ((List Chg)) :=
ob2 (m180_w1 n head n ([] : List File) 0) fun l2 c2 =>
ob2 (m180_w2 n index n l2 0) fun l5 c4 =>
ob2 (m180_w3 n work n l5 0) fun l8 c6 =>
ob2 (m180_w4 n head index work l8 n ([] : List Chg) 0) fun l11 c8 =>
some l11
theorem t180 {n : Nat} {C : List Chunk} {rl1 : List Chg} {v1 : Value} {head : (List File)} {v2 : Value} {index : (List File)} {v3 : Value} {work : (List File)} (hr1 : Rd rFile C v1 head) (hr2 : Rd rFile C v2 index) (hr3 : Rd rFile C v3 work)  (hm : m180 n head index work = some rl1) : Trip Tryz.prog 180 #[v1, v2, v3] ([] ++ [C]) (fun u S' => ∃ (ev1 : Value), ∃ (eg1 : List Chunk), ev1 = u ∧ S' = [eg1] ++ [C] ∧ Own rChg ev1 rl1 eg1) := by
  refine fn_entry (args := [v1, v2, v3]) Tryz.func180 rfl Tryz.ntmps180 rfl (fun w0 => ?_)
  refine c_seq ?_
  refine c_region ?_
  have ho1 : Own rChg (.slice none 0 0) [] [] := Own.nil
  refine o_emp ?_
  refine o_L (y_assign rfl) rfl rfl ?_
  refine o_nil0 rfl ?_
  refine c_seq ?_
  refine c_region ?_
  have ho2 : Own rFile (.slice none 0 0) [] [] := Own.nil
  refine o_emp ?_
  refine o_L (y_assign rfl) rfl rfl ?_
  refine o_nil0 rfl ?_
  refine c_seq ?_
  refine c_seq ?_
  refine c_region ?_
  refine o_L (y_assign rfl) rfl rfl ?_
  refine o_nil0 rfl ?_
  obtain ⟨l2, c2, hj1, hm⟩ := bd2 hm
  refine c_joinP (n := 1) (fun sh G => ∃ (v5 : Value), ∃ (g2 : List Chunk), sh = [(7, v5), (8, .int .i64 c2)] ∧ G = [g2] ∧ Own rFile v5 l2 g2) (s_take (s_skip (s_take s_nil))) (.s .z) (fun _ _ h => h) ?_ ?_
  · skip
    refine c_block ?_
    refine c_loopP (n := 1) (fun mm sh G => ∃ (l1 : List File), ∃ (c1 : Int), ∃ (v4 : Value), ∃ (g1 : List Chunk), sh = [(7, v4), (8, .int .i64 c1)] ∧ G = [g1] ∧ m180_w1 n head mm l1 c1 = some (l2, c2) ∧ Own rFile v4 l1 g1) n (s_take (s_skip (s_take s_nil))) (.s .z) ⟨_, _, ⟨_, _, (.slice none 0 0), _, rfl, rfl, hj1, ho2⟩, ⟨rfl, rfl, trivial⟩, _, (s_take (s_skip (s_take s_nil)))⟩ ?_
    rintro mm sh G ⟨l1, c1, v4, g1, rfl, rfl, hm, ho3⟩
    obtain ⟨mm1, rfl, hm⟩ := it2_s hm
    refine c_seq ?_
    refine c_seq ?_
    refine c_region ?_
    refine o_T (y_move rfl) rfl ?_
    refine o_T (y_move rfl) rfl ?_
    refine o_T (y_lenR hr1 Tryz.underlying57 rfl) rfl ?_
    refine o_T (y_lss rfl rfl) rfl ?_
    refine o_nil1 23 rfl rfl ?_
    refine c_cond rfl (fun h1 => ?_) (fun h1 => ?_)
    · have hm := cd_t h1 hm
      refine c_skip ?_
      refine c_seq ?_
      refine c_block ?_
      refine c_region ?_
      refine o_T (y_move rfl) rfl ?_
      refine o_T (y_move rfl) rfl ?_
      refine o_T (y_move rfl) rfl ?_
      obtain ⟨x1, hx1, hm⟩ := bd hm
      obtain ⟨b1, w1, cs1, y1, z1, vs1, hc1, ha1, hr4, hy1⟩ := hr1.ix hx1
      obtain rfl : vs1 = File.enc x1 := hr4
      refine o_T (hy1 sl_57 rfl rfl rfl) rfl ?_
      refine o_T (y_fa fl_71_0 rfl) rfl ?_
      refine o_ld one_9 rfl (ms (mg hc1)) (At.getA (ha1.comp File.a_path)) rfl ?_
      refine o_T (y_build st_71 rfl (fbU rfl File.u_path rfl rfl fbU0)) rfl ?_
      obtain ⟨l3, hx2, hm⟩ := bd1 hm
      refine o_callC en_117 rfl s_nil (t117 (ho3.rd.mono (fun _ hz => (mg hz))) hx2) rfl (fun u1 S1 hR1 => ?_)
      obtain ⟨v6, g3, rfl, rfl, ho5⟩ := hR1
      refine o_rest ?_
      refine o_L (y_assign rfl) rfl rfl ?_
      refine o_nil0 rfl ?_
      refine c_region ?_
      refine o_T (y_move rfl) rfl ?_
      refine o_T (y_add rfl rfl rfl) rfl ?_
      refine o_L (y_assign rfl) rfl rfl ?_
      refine o_nil0 rfl ?_
      exact ⟨mm1, Nat.lt_succ_self _, _, _, ⟨_, _, v6, _, rfl, rfl, hm, ho5⟩, ⟨rfl, rfl, trivial⟩, ⟨rfl, rfl⟩, _, (s_take (s_skip (s_take s_nil)))⟩
    · have hm := cd_f h1 hm
      refine c_exit ?_
      obtain ⟨rfl, rfl⟩ := pr2 hm
      exact ⟨_, _, ⟨v4, _, rfl, rfl, ho3⟩, ⟨rfl, rfl, trivial⟩, ⟨rfl, rfl⟩, _, (s_take (s_take s_nil))⟩
  · rintro sh G ⟨v5, g2, rfl, rfl, ho4⟩
    refine c_seq ?_
    refine c_seq ?_
    refine c_region ?_
    refine o_L (y_assign rfl) rfl rfl ?_
    refine o_nil0 rfl ?_
    obtain ⟨l5, c4, hj2, hm⟩ := bd2 hm
    refine c_joinP (n := 1) (fun sh G => ∃ (v8 : Value), ∃ (g5 : List Chunk), sh = [(7, v8), (9, .int .i64 c4)] ∧ G = [g5] ∧ Own rFile v8 l5 g5) (s_take (s_take s_nil)) (.s .z) (fun _ _ h => h) ?_ ?_
    · skip
      refine c_block ?_
      refine c_loopP (n := 1) (fun mm sh G => ∃ (l4 : List File), ∃ (c3 : Int), ∃ (v7 : Value), ∃ (g4 : List Chunk), sh = [(7, v7), (9, .int .i64 c3)] ∧ G = [g4] ∧ m180_w2 n index mm l4 c3 = some (l5, c4) ∧ Own rFile v7 l4 g4) n (s_take (s_take s_nil)) (.s .z) ⟨_, _, ⟨_, _, v5, _, rfl, rfl, hj2, ho4⟩, ⟨rfl, rfl, trivial⟩, _, (s_take (s_take s_nil))⟩ ?_
      rintro mm sh G ⟨l4, c3, v7, g4, rfl, rfl, hm, ho6⟩
      obtain ⟨mm2, rfl, hm⟩ := it2_s hm
      refine c_seq ?_
      refine c_seq ?_
      refine c_region ?_
      refine o_T (y_move rfl) rfl ?_
      refine o_T (y_move rfl) rfl ?_
      refine o_T (y_lenR hr2 Tryz.underlying57 rfl) rfl ?_
      refine o_T (y_lss rfl rfl) rfl ?_
      refine o_nil1 37 rfl rfl ?_
      refine c_cond rfl (fun h2 => ?_) (fun h2 => ?_)
      · have hm := cd_t h2 hm
        refine c_skip ?_
        refine c_seq ?_
        refine c_block ?_
        refine c_region ?_
        refine o_T (y_move rfl) rfl ?_
        refine o_T (y_move rfl) rfl ?_
        refine o_T (y_move rfl) rfl ?_
        obtain ⟨x2, hx3, hm⟩ := bd hm
        obtain ⟨b2, w2, cs2, y2, z2, vs2, hc2, ha2, hr5, hy2⟩ := hr2.ix hx3
        obtain rfl : vs2 = File.enc x2 := hr5
        refine o_T (hy2 sl_57 rfl rfl rfl) rfl ?_
        refine o_T (y_fa fl_71_0 rfl) rfl ?_
        refine o_ld one_9 rfl (ms (mg hc2)) (At.getA (ha2.comp File.a_path)) rfl ?_
        refine o_T (y_build st_71 rfl (fbU rfl File.u_path rfl rfl fbU0)) rfl ?_
        obtain ⟨l6, hx4, hm⟩ := bd1 hm
        refine o_callC en_117 rfl s_nil (t117 (ho6.rd.mono (fun _ hz => (mg hz))) hx4) rfl (fun u2 S2 hR2 => ?_)
        obtain ⟨v9, g6, rfl, rfl, ho8⟩ := hR2
        refine o_rest ?_
        refine o_L (y_assign rfl) rfl rfl ?_
        refine o_nil0 rfl ?_
        refine c_region ?_
        refine o_T (y_move rfl) rfl ?_
        refine o_T (y_add rfl rfl rfl) rfl ?_
        refine o_L (y_assign rfl) rfl rfl ?_
        refine o_nil0 rfl ?_
        exact ⟨mm2, Nat.lt_succ_self _, _, _, ⟨_, _, v9, _, rfl, rfl, hm, ho8⟩, ⟨rfl, rfl, trivial⟩, ⟨rfl, rfl⟩, _, (s_take (s_skip (s_take s_nil)))⟩
      · have hm := cd_f h2 hm
        refine c_exit ?_
        obtain ⟨rfl, rfl⟩ := pr2 hm
        exact ⟨_, _, ⟨v7, _, rfl, rfl, ho6⟩, ⟨rfl, rfl, trivial⟩, ⟨rfl, rfl⟩, _, (s_take (s_take s_nil))⟩
    · rintro sh G ⟨v8, g5, rfl, rfl, ho7⟩
      refine c_seq ?_
      refine c_seq ?_
      refine c_region ?_
      refine o_L (y_assign rfl) rfl rfl ?_
      refine o_nil0 rfl ?_
      obtain ⟨l8, c6, hj3, hm⟩ := bd2 hm
      refine c_joinP (n := 1) (fun sh G => ∃ (v11 : Value), ∃ (g8 : List Chunk), sh = [(7, v11), (10, .int .i64 c6)] ∧ G = [g8] ∧ Own rFile v11 l8 g8) (s_take (s_take s_nil)) (.s .z) (fun _ _ h => h) ?_ ?_
      · skip
        refine c_block ?_
        refine c_loopP (n := 1) (fun mm sh G => ∃ (l7 : List File), ∃ (c5 : Int), ∃ (v10 : Value), ∃ (g7 : List Chunk), sh = [(7, v10), (10, .int .i64 c5)] ∧ G = [g7] ∧ m180_w3 n work mm l7 c5 = some (l8, c6) ∧ Own rFile v10 l7 g7) n (s_take (s_take s_nil)) (.s .z) ⟨_, _, ⟨_, _, v8, _, rfl, rfl, hj3, ho7⟩, ⟨rfl, rfl, trivial⟩, _, (s_take (s_take s_nil))⟩ ?_
        rintro mm sh G ⟨l7, c5, v10, g7, rfl, rfl, hm, ho9⟩
        obtain ⟨mm3, rfl, hm⟩ := it2_s hm
        refine c_seq ?_
        refine c_seq ?_
        refine c_region ?_
        refine o_T (y_move rfl) rfl ?_
        refine o_T (y_move rfl) rfl ?_
        refine o_T (y_lenR hr3 Tryz.underlying57 rfl) rfl ?_
        refine o_T (y_lss rfl rfl) rfl ?_
        refine o_nil1 51 rfl rfl ?_
        refine c_cond rfl (fun h3 => ?_) (fun h3 => ?_)
        · have hm := cd_t h3 hm
          refine c_skip ?_
          refine c_seq ?_
          refine c_block ?_
          refine c_region ?_
          refine o_T (y_move rfl) rfl ?_
          refine o_T (y_move rfl) rfl ?_
          refine o_T (y_move rfl) rfl ?_
          obtain ⟨x3, hx5, hm⟩ := bd hm
          obtain ⟨b3, w3, cs3, y3, z3, vs3, hc3, ha3, hr6, hy3⟩ := hr3.ix hx5
          obtain rfl : vs3 = File.enc x3 := hr6
          refine o_T (hy3 sl_57 rfl rfl rfl) rfl ?_
          refine o_T (y_fa fl_71_0 rfl) rfl ?_
          refine o_ld one_9 rfl (ms (mg hc3)) (At.getA (ha3.comp File.a_path)) rfl ?_
          refine o_T (y_build st_71 rfl (fbU rfl File.u_path rfl rfl fbU0)) rfl ?_
          obtain ⟨l9, hx6, hm⟩ := bd1 hm
          refine o_callC en_117 rfl s_nil (t117 (ho9.rd.mono (fun _ hz => (mg hz))) hx6) rfl (fun u3 S3 hR3 => ?_)
          obtain ⟨v12, g9, rfl, rfl, ho11⟩ := hR3
          refine o_rest ?_
          refine o_L (y_assign rfl) rfl rfl ?_
          refine o_nil0 rfl ?_
          refine c_region ?_
          refine o_T (y_move rfl) rfl ?_
          refine o_T (y_add rfl rfl rfl) rfl ?_
          refine o_L (y_assign rfl) rfl rfl ?_
          refine o_nil0 rfl ?_
          exact ⟨mm3, Nat.lt_succ_self _, _, _, ⟨_, _, v12, _, rfl, rfl, hm, ho11⟩, ⟨rfl, rfl, trivial⟩, ⟨rfl, rfl⟩, _, (s_take (s_skip (s_take s_nil)))⟩
        · have hm := cd_f h3 hm
          refine c_exit ?_
          obtain ⟨rfl, rfl⟩ := pr2 hm
          exact ⟨_, _, ⟨v10, _, rfl, rfl, ho9⟩, ⟨rfl, rfl, trivial⟩, ⟨rfl, rfl⟩, _, (s_take (s_take s_nil))⟩
      · rintro sh G ⟨v11, g8, rfl, rfl, ho10⟩
        refine c_seq ?_
        refine c_region ?_
        have ho12 : Own rChg (.slice none 0 0) [] [] := Own.nil
        refine o_emp ?_
        refine o_L (y_assign rfl) rfl rfl ?_
        refine o_nil0 rfl ?_
        refine c_seq ?_
        refine c_seq ?_
        refine c_region ?_
        refine o_L (y_assign rfl) rfl rfl ?_
        refine o_nil0 rfl ?_
        obtain ⟨l11, c8, hj4, hm⟩ := bd2 hm
        refine c_joinP (n := 1) (fun sh G => ∃ (v14 : Value), ∃ (g11 : List Chunk), sh = [(11, v14), (12, .int .i64 c8)] ∧ G = [g11] ∧ Own rChg v14 l11 g11) (s_take (s_take (s_take s_nil))) (.s .z) (fun _ _ h => h) ?_ ?_
        · skip
          refine c_block ?_
          refine c_loopP (n := 1) (fun mm sh G => ∃ (l10 : List Chg), ∃ (c7 : Int), ∃ (v13 : Value), ∃ (g10 : List Chunk), sh = [(11, v13), (12, .int .i64 c7)] ∧ G = [g10] ∧ m180_w4 n head index work l8 mm l10 c7 = some (l11, c8) ∧ Own rChg v13 l10 g10) n (s_take (s_take (s_take s_nil))) (.s .z) ⟨_, _, ⟨_, _, (.slice none 0 0), _, rfl, rfl, hj4, ho12⟩, ⟨rfl, rfl, trivial⟩, _, (s_take (s_take (s_take s_nil)))⟩ ?_
          rintro mm sh G ⟨l10, c7, v13, g10, rfl, rfl, hm, ho13⟩
          obtain ⟨mm4, rfl, hm⟩ := it2_s hm
          refine c_seq ?_
          refine c_seq ?_
          refine c_region ?_
          refine o_T (y_move rfl) rfl ?_
          refine o_T (y_move rfl) rfl ?_
          refine o_T (y_lenR ho10.rd Tryz.underlying57 rfl) rfl ?_
          refine o_T (y_lss rfl rfl) rfl ?_
          refine o_nil1 65 rfl rfl ?_
          refine c_cond rfl (fun h4 => ?_) (fun h4 => ?_)
          · have hm := cd_t h4 hm
            refine c_skip ?_
            refine c_seq ?_
            refine c_block ?_
            refine c_seq ?_
            refine c_region ?_
            refine o_T (y_move rfl) rfl ?_
            refine o_T (y_move rfl) rfl ?_
            obtain ⟨x4, hx7, hm⟩ := bd hm
            obtain ⟨b4, w4, cs4, y4, z4, vs4, hc4, ha4, hr7, hy4⟩ := ho10.rd.ix hx7
            obtain rfl : vs4 = File.enc x4 := hr7
            refine o_T (hy4 sl_57 rfl rfl rfl) rfl ?_
            refine o_T (y_fa fl_71_0 rfl) rfl ?_
            refine o_ld one_9 rfl (ms (mg hc4)) (At.getA (ha4.comp File.a_path)) rfl ?_
            refine o_L (y_assign rfl) rfl rfl ?_
            refine o_nil0 rfl ?_
            refine c_seq ?_
            refine c_region ?_
            refine o_T (y_move rfl) rfl ?_
            refine o_T (y_move rfl) rfl ?_
            obtain ⟨c9, hx8, hm⟩ := bd1 hm
            refine o_callC en_118 rfl s_nil (t118 (hr1.mono (fun _ hz => (ms (ms (mg hz))))) hx8) rfl (fun u4 S4 hR4 => ?_)
            obtain ⟨rfl, rfl⟩ := hR4
            refine o_rest ?_
            refine o_L (y_assign rfl) rfl rfl ?_
            refine o_nil0 rfl ?_
            refine c_seq ?_
            refine c_region ?_
            refine o_T (y_move rfl) rfl ?_
            refine o_T (y_move rfl) rfl ?_
            obtain ⟨c10, hx9, hm⟩ := bd1 hm
            refine o_callC en_118 rfl s_nil (t118 (hr2.mono (fun _ hz => (ms (ms (mg hz))))) hx9) rfl (fun u5 S5 hR5 => ?_)
            obtain ⟨rfl, rfl⟩ := hR5
            refine o_rest ?_
            refine o_L (y_assign rfl) rfl rfl ?_
            refine o_nil0 rfl ?_
            refine c_seq ?_
            refine c_region ?_
            refine o_T (y_move rfl) rfl ?_
            refine o_T (y_move rfl) rfl ?_
            obtain ⟨c11, hx10, hm⟩ := bd1 hm
            refine o_callC en_118 rfl s_nil (t118 (hr3.mono (fun _ hz => (ms (ms (mg hz))))) hx10) rfl (fun u6 S6 hR6 => ?_)
            obtain ⟨rfl, rfl⟩ := hR6
            refine o_rest ?_
            refine o_L (y_assign rfl) rfl rfl ?_
            refine o_nil0 rfl ?_
            refine c_seq ?_
            refine c_region ?_
            refine o_T (y_move rfl) rfl ?_
            refine o_T (y_move rfl) rfl ?_
            refine o_T (y_move rfl) rfl ?_
            refine o_T (y_move rfl) rfl ?_
            obtain ⟨c12, hx11, hm⟩ := bd1 hm
            refine o_callC en_252 rfl s_nil (t252 (hr1.mono (fun _ hz => (ms (ms (mg hz))))) (hr2.mono (fun _ hz => (ms (ms (mg hz))))) hx11) rfl (fun u7 S7 hR7 => ?_)
            obtain ⟨rfl, rfl⟩ := hR7
            refine o_rest ?_
            refine o_L (y_assign rfl) rfl rfl ?_
            refine o_nil0 rfl ?_
            refine c_seq ?_
            refine c_region ?_
            refine o_T (y_move rfl) rfl ?_
            refine o_T (y_move rfl) rfl ?_
            refine o_T (y_move rfl) rfl ?_
            refine o_T (y_move rfl) rfl ?_
            obtain ⟨c13, hx12, hm⟩ := bd1 hm
            refine o_callC en_252 rfl s_nil (t252 (hr2.mono (fun _ hz => (ms (ms (mg hz))))) (hr3.mono (fun _ hz => (ms (ms (mg hz))))) hx12) rfl (fun u8 S8 hR8 => ?_)
            obtain ⟨rfl, rfl⟩ := hR8
            refine o_rest ?_
            refine o_L (y_assign rfl) rfl rfl ?_
            refine o_nil0 rfl ?_
            refine c_seq ?_
            refine c_region ?_
            refine o_T (y_move rfl) rfl ?_
            refine o_T (y_move rfl) rfl ?_
            refine o_T (y_move rfl) rfl ?_
            refine o_T (y_build st_196 rfl (fbU rfl Chg.u_path rfl rfl (fbU rfl Chg.u_staged rfl rfl (fbU rfl Chg.u_work rfl rfl fbU0)))) rfl ?_
            refine o_alloc ze_196 rfl rfl (fun b5 => ?_)
            obtain ⟨z5, hn1, hm⟩ := nm_s hm
            refine o_stNA ag_196 rfl rfl (Chg.plain _) (Chg.len _) (Upd.refl ((Chg.len _).trans (Chg.len _).symm)) r0 (show (Chg.enc z5) = _ from by subst hn1; rfl) ?_
            refine o_nil0 rfl ?_
            refine c_seq ?_
            refine c_joinP (n := 0) (fun sh G => sh = [(103, .bool ((decide (¬ (z5.staged = 0))) || (decide (¬ (z5.work = 0)))))] ∧ G = []) Sel.all' .z (fun _ _ h => h) ?_ ?_
            · skip
              refine c_region ?_
              refine o_T (y_fa fl_196_1 rfl) rfl ?_
              refine o_ld one_3 rfl m0 (At.got (At.refl.comp Chg.a_staged)) rfl ?_
              refine o_T (y_neq rfl rfl) rfl ?_
              refine o_T (y_move rfl) rfl ?_
              refine o_split 99 rfl (fun h5 => ?_) (fun h5 => ?_)
              · skip
                refine o_pass rfl rfl rfl rfl rfl ?_
                refine o_pass rfl rfl rfl rfl rfl ?_
                refine o_pass rfl rfl rfl rfl rfl ?_
                refine o_T (y_pickT rfl rfl) rfl ?_
                refine o_nil1 103 rfl rfl ?_
                refine ⟨_, _, ⟨rfl, rfl⟩, ⟨by first | rfl | exact gtb rfl (by simp only [h5, Bool.true_and, Bool.false_and, Bool.true_or, Bool.false_or, Bool.and_true, Bool.and_false, Bool.or_true, Bool.or_false, Bool.not_true, Bool.not_false]), trivial⟩, ⟨rfl, rfl⟩, _, (s_take (s_take (s_take (s_take s_nil))))⟩
              · skip
                refine o_take rfl rfl rfl ?_
                refine o_T (y_fa fl_196_2 rfl) rfl ?_
                refine o_take rfl rfl rfl ?_
                refine o_ld one_3 rfl m0 (At.got (At.refl.comp Chg.a_work)) rfl ?_
                refine o_take rfl rfl rfl ?_
                refine o_T (y_neq rfl rfl) rfl ?_
                refine o_T (y_pickF rfl rfl) rfl ?_
                refine o_nil1 103 rfl rfl ?_
                refine ⟨_, _, ⟨rfl, rfl⟩, ⟨by first | rfl | exact gtb rfl (by simp only [h5, Bool.true_and, Bool.false_and, Bool.true_or, Bool.false_or, Bool.and_true, Bool.and_false, Bool.or_true, Bool.or_false, Bool.not_true, Bool.not_false]), trivial⟩, ⟨rfl, rfl⟩, _, (s_take (s_take (s_take (s_take s_nil))))⟩
            · rintro sh G ⟨rfl, rfl⟩
              refine c_cond rfl (fun h6 => ?_) (fun h6 => ?_)
              · have hm := cd_t h6 hm
                refine c_region ?_
                refine o_T (y_move rfl) rfl ?_
                refine o_lda ag_196 rfl m0 (At.exs At.refl (Chg.len _)) (At.fits At.refl (Chg.len _)) rfl ?_
                refine o_bs1 sz_99 rfl rfl rfl rfl rfl rfl (fun b6 => ?_)
                obtain ⟨l12, hx13, hm⟩ := bd hm
                refine o_appR (R := rChg) (a := z5) sz_99 rfl rfl rfl rfl ho13 rfl hx13 (Sel.e (s_get (ks (ks k0)) (s_take s_nil))) rfl (fun v15 g12 ho15 => ?_)
                refine o_L (y_assign rfl) rfl rfl ?_
                refine o_nil0 rfl ?_
                refine c_region ?_
                refine o_T (y_move rfl) rfl ?_
                refine o_T (y_add rfl rfl rfl) rfl ?_
                refine o_L (y_assign rfl) rfl rfl ?_
                refine o_nil0 rfl ?_
                exact ⟨mm4, Nat.lt_succ_self _, _, _, ⟨_, _, v15, _, rfl, rfl, hm, ho15⟩, ⟨rfl, rfl, trivial⟩, ⟨rfl, rfl⟩, _, (s_take (s_skip (s_take (s_take s_nil))))⟩
              · have hm := cd_f h6 hm
                refine c_skip ?_
                refine c_region ?_
                refine o_T (y_move rfl) rfl ?_
                refine o_T (y_add rfl rfl rfl) rfl ?_
                refine o_L (y_assign rfl) rfl rfl ?_
                refine o_nil0 rfl ?_
                exact ⟨mm4, Nat.lt_succ_self _, _, _, ⟨_, _, v13, _, rfl, rfl, hm, ho13⟩, ⟨rfl, rfl, trivial⟩, ⟨rfl, rfl⟩, _, (s_skip (s_take (s_take (s_take s_nil))))⟩
          · have hm := cd_f h4 hm
            refine c_exit ?_
            obtain ⟨rfl, rfl⟩ := pr2 hm
            exact ⟨_, _, ⟨v13, _, rfl, rfl, ho13⟩, ⟨rfl, rfl, trivial⟩, ⟨rfl, rfl⟩, _, (s_take (s_take (s_take s_nil)))⟩
        · rintro sh G ⟨v14, g11, rfl, rfl, ho14⟩
          refine c_seq ?_
          refine c_region ?_
          refine o_T (y_move rfl) rfl ?_
          refine o_L (y_assign rfl) rfl rfl ?_
          refine o_nil0 rfl ?_
          refine c_ret ?_
          obtain rfl := p1 hm
          refine fun aX wX heX hsX => ret1 Tryz.results180 heX rfl (s_take (s_skip (s_take s_nil))) ?_
          exact ⟨v14, _, rfl, rfl, ho14⟩
end Go.Proofs.Qxb6500350aGreat
