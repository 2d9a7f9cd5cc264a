/- MADE BY PROGRAM (tools350/mir.py): mirror and walk. -/
import Derived.Test.Qxb6500350aGreatF2
set_option linter.unusedVariables false
set_option linter.unusedSimpArgs false
set_option maxRecDepth 20000
set_option maxHeartbeats 4000000
namespace Go.Proofs.Qxb6500350aGreat
open Go.Eng

/- api.WithRef -/
def m141_w1 (n : Nat) (r : (List Ref_)) (name : Str) (seq : Int) (mm : Nat) : (List Ref_) → Bool → Int → Option ((List Ref_) × Bool × Int) := it3 (fun lp1 l1 c1 c2 =>
cond (decide (c2 < (r.length : Int))) (
ob1 (cond (!c1) (Option.bind (ixL r c2) fun x1 =>
some ((sLt name x1.name || decide (name = x1.name)))) (some (false))) fun c5 =>
cond c5 (
Option.bind (apd l1 ({ name := name, seq := seq } : Ref_)) fun l3 =>
Option.bind (ixL r c2) fun x2 =>
cond (decide (name = x2.name)) (
lp1 l3 true (wi (c2 + 1))) (
Option.bind (ixL r c2) fun x3 =>
Option.bind (apd l3 x3) fun l4 =>
lp1 l4 true (wi (c2 + 1)))) (
Option.bind (ixL r c2) fun x4 =>
Option.bind (apd l1 x4) fun l5 =>
lp1 l5 c1 (wi (c2 + 1)))) (
some (l1, c1, c2))) mm
def m141 (n : Nat) (r : (List Ref_)) (name : Str) (seq : Int) : Option ((List Ref_)) :=
ob3 (m141_w1 n r name seq n ([] : List Ref_) false 0) fun l2 c3 c4 =>
cond (!c3) (
Option.bind (apd l2 ({ name := name, seq := seq } : Ref_)) fun l6 =>
some l6) (
some l2)
theorem t141 {n : Nat} {C : List Chunk} {rl1 : List Ref_} {v1 : Value} {r : (List Ref_)} {name : Str} {seq : Int} (hr1 : Rd rRef_ C v1 r)  (hm : m141 n r name seq = some rl1) : Trip Tryz.prog 141 #[v1, .string ⟨(name : Str).toArray⟩, .int .i64 seq] ([] ++ [C]) (fun u S' => ∃ (ev1 : Value), ∃ (eg1 : List Chunk), ev1 = u ∧ S' = [eg1] ++ [C] ∧ Own rRef_ ev1 rl1 eg1) := by
  refine fn_entry (args := [v1, .string ⟨(name : Str).toArray⟩, .int .i64 seq]) Tryz.func141 rfl Tryz.ntmps141 rfl (fun w0 => ?_)
  refine c_seq ?_
  refine c_region ?_
  have ho1 : Own rRef_ (.slice none 0 0) [] [] := Own.nil
  refine o_emp ?_
  refine o_L (y_assign rfl) rfl rfl ?_
  refine o_nil0 rfl ?_
  refine c_seq ?_
  refine c_region ?_
  have ho2 : Own rRef_ (.slice none 0 0) [] [] := Own.nil
  refine o_emp ?_
  refine o_L (y_assign rfl) rfl rfl ?_
  refine o_nil0 rfl ?_
  refine c_seq ?_
  refine c_region ?_
  refine o_L (y_assign rfl) rfl rfl ?_
  refine o_nil0 rfl ?_
  refine c_seq ?_
  refine c_seq ?_
  refine c_region ?_
  refine o_L (y_assign rfl) rfl rfl ?_
  refine o_nil0 rfl ?_
  obtain ⟨l2, c3, c4, hj1, hm⟩ := bd3 hm
  refine c_joinP (n := 1) (fun sh G => ∃ (v3 : Value), ∃ (g2 : List Chunk), sh = [(7, v3), (8, .bool c3), (9, .int .i64 c4)] ∧ G = [g2] ∧ Own rRef_ v3 l2 g2) (s_take (s_skip (s_take s_nil))) (.s .z) (fun _ _ h => h) ?_ ?_
  · skip
    refine c_block ?_
    refine c_loopP (n := 1) (fun mm sh G => ∃ (l1 : List Ref_), ∃ (c1 : Bool), ∃ (c2 : Int), ∃ (v2 : Value), ∃ (g1 : List Chunk), sh = [(7, v2), (8, .bool c1), (9, .int .i64 c2)] ∧ G = [g1] ∧ m141_w1 n r name seq mm l1 c1 c2 = some (l2, c3, c4) ∧ Own rRef_ v2 l1 g1) n (s_take (s_skip (s_take s_nil))) (.s .z) ⟨_, _, ⟨_, _, _, (.slice none 0 0), _, rfl, rfl, hj1, ho2⟩, ⟨rfl, rfl, rfl, trivial⟩, _, (s_take (s_skip (s_take s_nil)))⟩ ?_
    rintro mm sh G ⟨l1, c1, c2, v2, g1, rfl, rfl, hm, ho3⟩
    obtain ⟨mm1, rfl, hm⟩ := it3_s hm
    refine c_seq ?_
    refine c_seq ?_
    refine c_region ?_
    refine o_T (y_move rfl) rfl ?_
    refine o_T (y_move rfl) rfl ?_
    refine o_T (y_lenR hr1 Tryz.underlying56 rfl) rfl ?_
    refine o_T (y_lss rfl rfl) rfl ?_
    refine o_nil1 13 rfl rfl ?_
    refine c_cond rfl (fun h1 => ?_) (fun h1 => ?_)
    · have hm := cd_t h1 hm
      refine c_skip ?_
      refine c_seq ?_
      refine c_block ?_
      refine c_seq ?_
      refine c_seq ?_
      obtain ⟨c5, hj2, hm⟩ := bd1 hm
      refine c_joinP (n := 0) (fun sh G => sh = [(26, .bool c5)] ∧ G = []) Sel.all' .z (fun _ _ h => h) ?_ ?_
      · have hm := hj2
        refine c_region ?_
        refine o_T (y_move rfl) rfl ?_
        refine o_T (y_not rfl) rfl ?_
        refine o_T (y_move rfl) rfl ?_
        refine o_split 18 rfl (fun h2 => ?_) (fun h2 => ?_)
        · have hm := cd_t h2 hm
          refine o_take rfl rfl rfl ?_
          refine o_T (y_move rfl) rfl ?_
          refine o_take rfl rfl rfl ?_
          refine o_T (y_move rfl) rfl ?_
          refine o_take rfl rfl rfl ?_
          refine o_T (y_move rfl) rfl ?_
          refine o_take rfl rfl rfl ?_
          obtain ⟨x1, hx1, hm⟩ := bd hm
          obtain ⟨b1, w1, cs1, y1, z1, vs1, hc1, ha1, hr2, hy1⟩ := hr1.ix hx1
          obtain rfl : vs1 = Ref_.enc x1 := hr2
          refine o_T (hy1 sl_56 rfl rfl rfl) rfl ?_
          refine o_take rfl rfl rfl ?_
          refine o_T (y_fa fl_96_0 rfl) rfl ?_
          refine o_take rfl rfl rfl ?_
          refine o_ld one_9 rfl (ms (mg hc1)) (At.getA (ha1.comp Ref_.a_name)) rfl ?_
          refine o_take rfl rfl rfl ?_
          refine o_T (y_sle rfl rfl) rfl ?_
          refine o_T (y_pickT rfl rfl) rfl ?_
          refine o_nil1 26 rfl rfl ?_
          obtain rfl := p1 hm
          exact ⟨_, _, ⟨rfl, rfl⟩, ⟨rfl, trivial⟩, ⟨rfl, rfl⟩, _, (s_take (s_take s_nil))⟩
        · have hm := cd_f h2 hm
          refine o_pass rfl rfl rfl rfl rfl ?_
          refine o_pass rfl rfl rfl rfl rfl ?_
          refine o_pass rfl rfl rfl rfl rfl ?_
          refine o_pass rfl rfl rfl rfl rfl ?_
          refine o_pass rfl rfl rfl rfl rfl ?_
          refine o_pass rfl rfl rfl rfl rfl ?_
          refine o_pass rfl rfl rfl rfl rfl ?_
          refine o_T (y_pickF rfl rfl) rfl ?_
          refine o_nil1 26 rfl rfl ?_
          obtain rfl := p1 hm
          exact ⟨_, _, ⟨rfl, rfl⟩, ⟨rfl, trivial⟩, ⟨rfl, rfl⟩, _, (s_take (s_take s_nil))⟩
      · rintro sh G ⟨rfl, rfl⟩
        refine c_cond rfl (fun h3 => ?_) (fun h3 => ?_)
        · have hm := cd_t h3 hm
          refine c_seq ?_
          refine c_region ?_
          refine o_T (y_move rfl) rfl ?_
          refine o_T (y_move rfl) rfl ?_
          refine o_T (y_move rfl) rfl ?_
          refine o_T (y_build st_96 rfl (fbU rfl Ref_.u_name rfl rfl (fbU rfl Ref_.u_seq rfl rfl fbU0))) rfl ?_
          refine o_bs1 sz_56 rfl rfl rfl rfl rfl rfl (fun b2 => ?_)
          obtain ⟨l3, hx2, hm⟩ := bd hm
          refine o_appR (R := rRef_) (a := ({ name := name, seq := seq } : Ref_)) sz_56 rfl rfl rfl rfl ho3 rfl hx2 (Sel.e (s_get (ks k0) (s_take s_nil))) rfl (fun v4 g3 ho5 => ?_)
          refine o_L (y_assign rfl) rfl rfl ?_
          refine o_nil0 rfl ?_
          refine c_seq ?_
          refine c_region ?_
          refine o_L (y_assign rfl) rfl rfl ?_
          refine o_nil0 rfl ?_
          refine c_seq ?_
          refine c_region ?_
          refine o_T (y_move rfl) rfl ?_
          refine o_T (y_move rfl) rfl ?_
          refine o_T (y_move rfl) rfl ?_
          obtain ⟨x2, hx3, hm⟩ := bd hm
          obtain ⟨b3, w2, cs2, y2, z2, vs2, hc2, ha2, hr3, hy2⟩ := hr1.ix hx3
          obtain rfl : vs2 = Ref_.enc x2 := hr3
          refine o_T (hy2 sl_56 rfl rfl rfl) rfl ?_
          refine o_T (y_fa fl_96_0 rfl) rfl ?_
          refine o_ld one_9 rfl (ms (mg hc2)) (At.getA (ha2.comp Ref_.a_name)) rfl ?_
          refine o_T (y_seq rfl rfl) rfl ?_
          refine o_nil1 39 rfl rfl ?_
          refine c_cond rfl (fun h4 => ?_) (fun h4 => ?_)
          · have hm := cd_t h4 hm
            refine c_exit ?_
            refine c_region ?_
            refine o_T (y_move rfl) rfl ?_
            refine o_T (y_add rfl rfl rfl) rfl ?_
            refine o_L (y_assign rfl) rfl rfl ?_
            refine o_nil0 rfl ?_
            exact ⟨mm1, Nat.lt_succ_self _, _, _, ⟨_, _, _, v4, _, rfl, rfl, hm, ho5⟩, ⟨rfl, rfl, rfl, trivial⟩, ⟨rfl, rfl⟩, _, (s_take (s_take s_nil))⟩
          · have hm := cd_f h4 hm
            refine c_skip ?_
            refine c_region ?_
            refine o_T (y_move rfl) rfl ?_
            refine o_T (y_move rfl) rfl ?_
            refine o_T (y_move rfl) rfl ?_
            obtain ⟨x3, hx4, hm⟩ := bd hm
            obtain ⟨b4, w3, cs3, y3, z3, vs3, hc3, ha3, hr4, hy3⟩ := hr1.ix hx4
            obtain rfl : vs3 = Ref_.enc x3 := hr4
            refine o_T (hy3 sl_56 rfl rfl rfl) rfl ?_
            refine o_lda ag_96 rfl (ms (mg hc3)) (At.ext (ha3) (Ref_.len _)) (At.fit (ha3) (Ref_.len _)) rfl ?_
            refine o_bs1 sz_56 rfl rfl rfl rfl rfl rfl (fun b5 => ?_)
            obtain ⟨l4, hx5, hm⟩ := bd hm
            refine o_appR (R := rRef_) (a := x3) sz_56 rfl rfl rfl rfl ho5 rfl hx5 (Sel.e (s_get (ks k0) (s_take s_nil))) rfl (fun v5 g4 ho6 => ?_)
            refine o_L (y_assign rfl) rfl rfl ?_
            refine o_nil0 rfl ?_
            refine c_region ?_
            refine o_T (y_move rfl) rfl ?_
            refine o_T (y_add rfl rfl rfl) rfl ?_
            refine o_L (y_assign rfl) rfl rfl ?_
            refine o_nil0 rfl ?_
            exact ⟨mm1, Nat.lt_succ_self _, _, _, ⟨_, _, _, v5, _, rfl, rfl, hm, ho6⟩, ⟨rfl, rfl, rfl, trivial⟩, ⟨rfl, rfl⟩, _, (s_take (s_take s_nil))⟩
        · have hm := cd_f h3 hm
          refine c_skip ?_
          refine c_region ?_
          refine o_T (y_move rfl) rfl ?_
          refine o_T (y_move rfl) rfl ?_
          refine o_T (y_move rfl) rfl ?_
          obtain ⟨x4, hx6, hm⟩ := bd hm
          obtain ⟨b6, w4, cs4, y4, z4, vs4, hc4, ha4, hr5, hy4⟩ := hr1.ix hx6
          obtain rfl : vs4 = Ref_.enc x4 := hr5
          refine o_T (hy4 sl_56 rfl rfl rfl) rfl ?_
          refine o_lda ag_96 rfl (ms (mg hc4)) (At.ext (ha4) (Ref_.len _)) (At.fit (ha4) (Ref_.len _)) rfl ?_
          refine o_bs1 sz_56 rfl rfl rfl rfl rfl rfl (fun b7 => ?_)
          obtain ⟨l5, hx7, hm⟩ := bd hm
          refine o_appR (R := rRef_) (a := x4) sz_56 rfl rfl rfl rfl ho3 rfl hx7 (Sel.e (s_get (ks k0) (s_take s_nil))) rfl (fun v6 g5 ho7 => ?_)
          refine o_L (y_assign rfl) rfl rfl ?_
          refine o_nil0 rfl ?_
          refine c_region ?_
          refine o_T (y_move rfl) rfl ?_
          refine o_T (y_add rfl rfl rfl) rfl ?_
          refine o_L (y_assign rfl) rfl rfl ?_
          refine o_nil0 rfl ?_
          exact ⟨mm1, Nat.lt_succ_self _, _, _, ⟨_, _, _, v6, _, rfl, rfl, hm, ho7⟩, ⟨rfl, rfl, rfl, trivial⟩, ⟨rfl, rfl⟩, _, (s_take (s_take s_nil))⟩
    · have hm := cd_f h1 hm
      refine c_exit ?_
      obtain ⟨rfl, rfl, rfl⟩ := pr3 hm
      exact ⟨_, _, ⟨v2, _, rfl, rfl, ho3⟩, ⟨rfl, rfl, rfl, trivial⟩, ⟨rfl, rfl⟩, _, (s_take (s_take s_nil))⟩
  · rintro sh G ⟨v3, g2, rfl, rfl, ho4⟩
    refine c_seq ?_
    refine c_seq ?_
    refine c_region ?_
    refine o_T (y_move rfl) rfl ?_
    refine o_T (y_not rfl) rfl ?_
    refine o_nil1 48 rfl rfl ?_
    refine c_cond rfl (fun h5 => ?_) (fun h5 => ?_)
    · have hm := cd_t h5 hm
      refine c_region ?_
      refine o_T (y_move rfl) rfl ?_
      refine o_T (y_move rfl) rfl ?_
      refine o_T (y_move rfl) rfl ?_
      refine o_T (y_build st_96 rfl (fbU rfl Ref_.u_name rfl rfl (fbU rfl Ref_.u_seq rfl rfl fbU0))) rfl ?_
      refine o_bs1 sz_56 rfl rfl rfl rfl rfl rfl (fun b8 => ?_)
      obtain ⟨l6, hx8, hm⟩ := bd hm
      refine o_appR (R := rRef_) (a := ({ name := name, seq := seq } : Ref_)) sz_56 rfl rfl rfl rfl ho4 rfl hx8 (Sel.e (s_get (ks k0) (s_take s_nil))) rfl (fun v7 g6 ho8 => ?_)
      refine o_L (y_assign rfl) rfl rfl ?_
      refine o_nil0 rfl ?_
      refine c_seq ?_
      refine c_region ?_
      refine o_T (y_move rfl) rfl ?_
      refine o_L (y_assign rfl) rfl rfl ?_
      refine o_nil0 rfl ?_
      refine c_ret ?_
      obtain rfl := p1 hm
      refine fun aX wX heX hsX => ret1 Tryz.results141 heX rfl (s_take (s_take s_nil)) ?_
      exact ⟨v7, _, rfl, rfl, ho8⟩
    · have hm := cd_f h5 hm
      refine c_skip ?_
      refine c_seq ?_
      refine c_region ?_
      refine o_T (y_move rfl) rfl ?_
      refine o_L (y_assign rfl) rfl rfl ?_
      refine o_nil0 rfl ?_
      refine c_ret ?_
      obtain rfl := p1 hm
      refine fun aX wX heX hsX => ret1 Tryz.results141 heX rfl (s_take (s_take s_nil)) ?_
      exact ⟨v3, _, rfl, rfl, ho4⟩
end Go.Proofs.Qxb6500350aGreat
