/- MADE BY PROGRAM (tools350/mir.py): mirror and walk. -/
import Derived.Test.Qxb6500350aGreatF2
set_option linter.unusedVariables false
set_option linter.unusedSimpArgs false
set_option maxRecDepth 20000
set_option maxHeartbeats 4000000
namespace Go.Proofs.Qxb6500350aGreat
open Go.Eng

/- objects.pack -/
def m301_w1 (n : Nat) (data : (List UInt8)) (from_ : Int) (c1 : Int) (mm : Nat) : Int → (List UInt8) → Option (Int × (List UInt8)) := it2 (fun lp1 c2 l5 =>
cond (decide (c2 < c1)) (
Option.bind (ixL data (wi (from_ + c2))) fun x4 =>
Option.bind (ckA (wi (4 + c2)) (l5.length : Int)) fun _ =>
Option.bind (stL l5 (wi (4 + c2)) x4) fun l7 =>
lp1 (wi (c2 + 1)) l7) (
some (c2, l5))) mm
def m301 (n : Nat) (kind : Int) (follow : Int) (data : (List UInt8)) (from_ : Int) : Option ((List UInt8)) :=
Option.bind (mkL 64 64 (0 : UInt8)) fun l1 =>
ob1 (cond (decide ((60 : Int) < (wi ((data.length : Int) - from_)))) (
some 60) (
some (wi ((data.length : Int) - from_)))) fun c1 =>
Option.bind (ckA 0 (l1.length : Int)) fun _ =>
Option.bind (stL l1 0 (u8 kind)) fun l2 =>
Option.bind (ckA 1 (l2.length : Int)) fun _ =>
Option.bind (stL l2 1 (u8 follow)) fun l3 =>
Option.bind (ckA 2 (l3.length : Int)) fun _ =>
Option.bind (stL l3 2 (u8 c1)) fun l4 =>
ob2 (m301_w1 n data from_ c1 n 0 l4) fun c3 l6 =>
some l6
theorem t301 {n : Nat} {C : List Chunk} {rl1 : List UInt8} {kind : Int} {follow : Int} {v1 : Value} {data : (List UInt8)} {from_ : Int} (hr1 : Rd rByte C v1 data)  (hm : m301 n kind follow data from_ = some rl1) : Trip Tryz.prog 301 #[.int .i64 kind, .int .i64 follow, v1, .int .i64 from_] ([] ++ [C]) (fun u S' => ∃ (ev1 : Value), ∃ (eg1 : List Chunk), ev1 = u ∧ S' = [eg1] ++ [C] ∧ Own rByte ev1 rl1 eg1) := by
  refine fn_entry (args := [.int .i64 kind, .int .i64 follow, v1, .int .i64 from_]) Tryz.func301 rfl Tryz.ntmps301 rfl (fun w0 => ?_)
  refine c_seq ?_
  refine c_region ?_
  have ho1 : Own rByte (.slice none 0 0) [] [] := Own.nil
  refine o_emp ?_
  refine o_L (y_assign rfl) rfl rfl ?_
  refine o_nil0 rfl ?_
  refine c_seq ?_
  refine c_region ?_
  obtain ⟨l1, hx1, hm⟩ := bd hm
  refine o_mkR (R := rByte) (a := 0) sz_81 rfl rfl rfl rfl rfl hx1 rfl (fun v2 g1 ho2 => ?_)
  refine o_L (y_assign rfl) rfl rfl ?_
  refine o_nil0 rfl ?_
  refine c_seq ?_
  refine c_region ?_
  refine o_T (y_move rfl) rfl ?_
  refine o_T (y_lenR hr1 Tryz.underlying81 rfl) rfl ?_
  refine o_T (y_move rfl) rfl ?_
  refine o_T (y_sub rfl rfl rfl) rfl ?_
  refine o_L (y_assign rfl) rfl rfl ?_
  refine o_nil0 rfl ?_
  refine c_seq ?_
  refine c_seq ?_
  refine c_region ?_
  refine o_T (y_move rfl) rfl ?_
  refine o_T (y_gtr rfl rfl) rfl ?_
  refine o_nil1 18 rfl rfl ?_
  obtain ⟨c1, hj1, hm⟩ := bd1 hm
  refine c_joinP (n := 0) (fun sh G => sh = [(10, .int .i64 c1)] ∧ G = []) (s_take (s_skip (s_take s_nil))) .z (fun _ _ h => h) ?_ ?_
  · have hm := hj1
    refine c_cond rfl (fun h1 => ?_) (fun h1 => ?_)
    · have hm := cd_t h1 hm
      refine c_region ?_
      refine o_L (y_assign rfl) rfl rfl ?_
      refine o_nil0 rfl ?_
      obtain rfl := p1 hm
      exact ⟨_, _, ⟨rfl, rfl⟩, ⟨rfl, trivial⟩, ⟨rfl, rfl⟩, _, (s_take (s_skip (s_take s_nil)))⟩
    · have hm := cd_f h1 hm
      refine c_skip ?_
      obtain rfl := p1 hm
      exact ⟨_, _, ⟨rfl, rfl⟩, ⟨rfl, trivial⟩, ⟨rfl, rfl⟩, _, (s_take (s_skip (s_take s_nil)))⟩
  · rintro sh G ⟨rfl, rfl⟩
    refine c_seq ?_
    refine c_region ?_
    refine o_T (y_move rfl) rfl ?_
    refine o_T (y_move rfl) rfl ?_
    refine o_T (y_conv Tryz.underlying3 Tryz.underlying5 rfl (u8_eq _)) rfl ?_
    obtain ⟨_, hi1, hm⟩ := bd hm
    have hi1 := ckA_some hi1
    obtain ⟨b1, cp1, hv1, hy1⟩ := ho2.ix hi1
    refine o_T (hy1 sl_81 rfl rfl rfl) rfl ?_
    obtain ⟨l2, hx3, hm⟩ := bd hm
    refine o_stO1 one_5 rfl rfl rfl rfl ho2 hv1 hx3 (fun _ => q0) (fun g2 ho3 => ?_)
    refine o_nil0 rfl ?_
    refine c_seq ?_
    refine c_region ?_
    refine o_T (y_move rfl) rfl ?_
    refine o_T (y_move rfl) rfl ?_
    refine o_T (y_conv Tryz.underlying3 Tryz.underlying5 rfl (u8_eq _)) rfl ?_
    obtain ⟨_, hi2, hm⟩ := bd hm
    have hi2 := ckA_some hi2
    obtain ⟨b2, cp2, hv2, hy2⟩ := ho3.ix hi2
    refine o_T (hy2 sl_81 rfl rfl rfl) rfl ?_
    obtain ⟨l3, hx5, hm⟩ := bd hm
    refine o_stO1 one_5 rfl rfl rfl rfl ho3 hv2 hx5 (fun _ => q0) (fun g3 ho4 => ?_)
    refine o_nil0 rfl ?_
    refine c_seq ?_
    refine c_region ?_
    refine o_T (y_move rfl) rfl ?_
    refine o_T (y_move rfl) rfl ?_
    refine o_T (y_conv Tryz.underlying3 Tryz.underlying5 rfl (u8_eq _)) rfl ?_
    obtain ⟨_, hi3, hm⟩ := bd hm
    have hi3 := ckA_some hi3
    obtain ⟨b3, cp3, hv3, hy3⟩ := ho4.ix hi3
    refine o_T (hy3 sl_81 rfl rfl rfl) rfl ?_
    obtain ⟨l4, hx7, hm⟩ := bd hm
    refine o_stO1 one_5 rfl rfl rfl rfl ho4 hv3 hx7 (fun _ => q0) (fun g4 ho5 => ?_)
    refine o_nil0 rfl ?_
    refine c_seq ?_
    refine c_seq ?_
    refine c_region ?_
    refine o_L (y_assign rfl) rfl rfl ?_
    refine o_nil0 rfl ?_
    obtain ⟨c3, l6, hj2, hm⟩ := bd2 hm
    refine c_joinP (n := 1) (fun sh G => ∃ (g6 : List Chunk), sh = [(11, .int .i64 c3)] ∧ G = [g6] ∧ Own rByte v2 l6 g6) (s_take (s_take s_nil)) (.s .z) (fun _ _ h => h) ?_ ?_
    · skip
      refine c_block ?_
      refine c_loopP (n := 1) (fun mm sh G => ∃ (c2 : Int), ∃ (l5 : List UInt8), ∃ (g5 : List Chunk), sh = [(11, .int .i64 c2)] ∧ G = [g5] ∧ m301_w1 n data from_ c1 mm c2 l5 = some (c3, l6) ∧ Own rByte v2 l5 g5) n (s_take (s_take s_nil)) (.s .z) ⟨_, _, ⟨_, _, _, rfl, rfl, hj2, ho5⟩, ⟨rfl, trivial⟩, _, (s_take (s_take s_nil))⟩ ?_
      rintro mm sh G ⟨c2, l5, g5, rfl, rfl, hm, ho6⟩
      obtain ⟨mm1, rfl, hm⟩ := it2_s hm
      refine c_seq ?_
      refine c_seq ?_
      refine c_region ?_
      refine o_T (y_move rfl) rfl ?_
      refine o_T (y_move rfl) rfl ?_
      refine o_T (y_lss rfl rfl) rfl ?_
      refine o_nil1 33 rfl rfl ?_
      refine c_cond rfl (fun h2 => ?_) (fun h2 => ?_)
      · have hm := cd_t h2 hm
        refine c_skip ?_
        refine c_seq ?_
        refine c_block ?_
        refine c_region ?_
        refine o_T (y_move rfl) rfl ?_
        refine o_T (y_move rfl) rfl ?_
        refine o_T (y_add rfl rfl rfl) rfl ?_
        refine o_T (y_move rfl) rfl ?_
        refine o_T (y_move rfl) rfl ?_
        refine o_T (y_move rfl) rfl ?_
        refine o_T (y_add rfl rfl rfl) rfl ?_
        obtain ⟨x4, hx8, hm⟩ := bd hm
        obtain ⟨b4, w1, cs1, y1, z1, vs1, hc1, ha1, hr2, hy4⟩ := hr1.ix hx8
        obtain rfl : vs1 = (enc8 x4) := hr2
        refine o_T (hy4 sl_81 rfl rfl rfl) rfl ?_
        refine o_ld one_5 rfl (ms (mg hc1)) (At.getA (ha1)) rfl ?_
        obtain ⟨_, hi4, hm⟩ := bd hm
        have hi4 := ckA_some hi4
        obtain ⟨b5, cp4, hv4, hy5⟩ := ho6.ix hi4
        refine o_T (hy5 sl_81 rfl rfl rfl) rfl ?_
        obtain ⟨l7, hx10, hm⟩ := bd hm
        refine o_stO1 one_5 rfl rfl rfl rfl ho6 hv4 hx10 (fun _ => q0) (fun g7 ho8 => ?_)
        refine o_nil0 rfl ?_
        refine c_region ?_
        refine o_T (y_move rfl) rfl ?_
        refine o_T (y_add rfl rfl rfl) rfl ?_
        refine o_L (y_assign rfl) rfl rfl ?_
        refine o_nil0 rfl ?_
        exact ⟨mm1, Nat.lt_succ_self _, _, _, ⟨_, _, _, rfl, rfl, hm, ho8⟩, ⟨rfl, trivial⟩, ⟨rfl, rfl⟩, _, (s_take (s_take s_nil))⟩
      · have hm := cd_f h2 hm
        refine c_exit ?_
        obtain ⟨rfl, rfl⟩ := pr2 hm
        exact ⟨_, _, ⟨_, rfl, rfl, ho6⟩, ⟨rfl, trivial⟩, ⟨rfl, rfl⟩, _, (s_take (s_take s_nil))⟩
    · rintro sh G ⟨g6, rfl, rfl, ho7⟩
      refine c_seq ?_
      refine c_region ?_
      refine o_T (y_move rfl) rfl ?_
      refine o_L (y_assign rfl) rfl rfl ?_
      refine o_nil0 rfl ?_
      refine c_ret ?_
      obtain rfl := p1 hm
      refine fun aX wX heX hsX => ret1 Tryz.results301 heX rfl (s_take (s_take s_nil)) ?_
      exact ⟨v2, _, rfl, rfl, ho7⟩
end Go.Proofs.Qxb6500350aGreat
