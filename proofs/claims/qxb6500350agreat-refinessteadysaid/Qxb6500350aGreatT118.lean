/- MADE BY PROGRAM (tools350/mir.py): mirror and walk. -/
import Derived.Test.Qxb6500350aGreatF2
set_option linter.unusedVariables false
set_option linter.unusedSimpArgs false
set_option maxRecDepth 20000
set_option maxHeartbeats 4000000
namespace Go.Proofs.Qxb6500350aGreat
open Go.Eng

/- api.Find -/
def m118_w1 (n : Nat) (l : (List File)) (path : Str) (mm : Nat) : Int → Option (Flow (Int) (Int)) := it1 (fun lp1 c1 =>
cond (decide (c1 < (l.length : Int))) (
Option.bind (ixL l c1) fun x1 =>
cond (decide (x1.path = path)) (
Option.bind (some c1) fun q1 => some (.ret q1)) (
lp1 (wi (c1 + 1)))) (
some (.nx c1))) mm
def m118 (n : Nat) (l : (List File)) (path : Str) : Option (Int) :=
flow (m118_w1 n l path n 0) some (un1 fun c2 =>
some (-1))
theorem t118 {n : Nat} {C : List Chunk} {rc1 : Int} {v1 : Value} {l : (List File)} {path : Str} (hr1 : Rd rFile C v1 l)  (hm : m118 n l path = some rc1) : Trip Tryz.prog 118 #[v1, .string ⟨(path : Str).toArray⟩] ([] ++ [C]) (fun u S' => .int .i64 rc1 = u ∧ S' = [] ++ [C]) := by
  refine fn_entry (args := [v1, .string ⟨(path : Str).toArray⟩]) Tryz.func118 rfl Tryz.ntmps118 rfl (fun w0 => ?_)
  refine c_seq ?_
  refine c_region ?_
  refine o_L (y_assign rfl) rfl rfl ?_
  refine o_nil0 rfl ?_
  refine c_seq ?_
  refine c_seq ?_
  refine c_region ?_
  refine o_L (y_assign rfl) rfl rfl ?_
  refine o_nil0 rfl ?_
  obtain ⟨f1, F1, hF1, hj1, hF2⟩ := fl2 hm
  refine c_joinP (n := 0) (fun sh G => ∃ (c2 : Int), sh = [(5, .int .i64 c2)] ∧ G = [] ∧ F1 c2 = some rc1) (s_take s_nil) .z (fun _ _ h => h) ?_ ?_
  · skip
    refine c_block ?_
    refine c_loopP (n := 0) (fun mm sh G => ∃ (c1 : Int), sh = [(5, .int .i64 c1)] ∧ G = [] ∧ m118_w1 n l path mm c1 = some f1) n (s_take s_nil) .z ⟨_, _, ⟨_, rfl, rfl, hj1⟩, ⟨rfl, trivial⟩, _, (s_take s_nil)⟩ ?_
    rintro mm sh G ⟨c1, rfl, rfl, hm⟩
    obtain ⟨mm1, rfl, hm⟩ := it1_s hm
    refine c_seq ?_
    refine c_seq ?_
    refine c_region ?_
    refine o_T (y_move rfl) rfl ?_
    refine o_T (y_move rfl) rfl ?_
    refine o_T (y_lenR hr1 Tryz.underlying57 rfl) rfl ?_
    refine o_T (y_lss rfl rfl) rfl ?_
    refine o_nil1 9 rfl rfl ?_
    refine c_cond rfl (fun h1 => ?_) (fun h1 => ?_)
    · have hm := cd_t h1 hm
      refine c_skip ?_
      refine c_seq ?_
      refine c_block ?_
      refine c_seq ?_
      refine c_region ?_
      refine o_T (y_move rfl) rfl ?_
      refine o_T (y_move rfl) rfl ?_
      obtain ⟨x1, hx1, hm⟩ := bd hm
      obtain ⟨b1, w1, cs1, y1, z1, vs1, hc1, ha1, hr2, hy1⟩ := hr1.ix hx1
      obtain rfl : vs1 = File.enc x1 := hr2
      refine o_T (hy1 sl_57 rfl rfl rfl) rfl ?_
      refine o_T (y_fa fl_71_0 rfl) rfl ?_
      refine o_ld one_9 rfl (mg hc1) (At.getA (ha1.comp File.a_path)) rfl ?_
      refine o_T (y_move rfl) rfl ?_
      refine o_T (y_seq rfl rfl) rfl ?_
      refine o_nil1 18 rfl rfl ?_
      refine c_cond rfl (fun h2 => ?_) (fun h2 => ?_)
      · have hm := cd_t h2 hm
        refine c_seq ?_
        refine c_region ?_
        refine o_T (y_move rfl) rfl ?_
        refine o_L (y_assign rfl) rfl rfl ?_
        refine o_nil0 rfl ?_
        refine c_ret ?_
        obtain ⟨q1, hq1, hm⟩ := bd hm
        have hm := fl_ret hm hF2
        have hm := hq1.trans hm
        obtain rfl := p1 hm
        refine fun aX wX heX hsX => ret1 Tryz.results118 heX rfl (s_take s_nil) ?_
        exact ⟨rfl, rfl⟩
      · have hm := cd_f h2 hm
        refine c_skip ?_
        refine c_region ?_
        refine o_T (y_move rfl) rfl ?_
        refine o_T (y_add rfl rfl rfl) rfl ?_
        refine o_L (y_assign rfl) rfl rfl ?_
        refine o_nil0 rfl ?_
        exact ⟨mm1, Nat.lt_succ_self _, _, _, ⟨_, rfl, rfl, hm⟩, ⟨rfl, trivial⟩, ⟨rfl, rfl⟩, _, (s_take s_nil)⟩
    · have hm := cd_f h1 hm
      refine c_exit ?_
      have hm := fl_nx hm hF2
      exact ⟨_, _, ⟨_, rfl, rfl, hm⟩, ⟨rfl, trivial⟩, ⟨rfl, rfl⟩, _, (s_take s_nil)⟩
  · rintro sh G ⟨c2, rfl, rfl, hm⟩
    subst hF1
    refine c_seq ?_
    refine c_region ?_
    refine o_L (y_assign rfl) rfl rfl ?_
    refine o_nil0 rfl ?_
    refine c_ret ?_
    obtain rfl := p1 hm
    refine fun aX wX heX hsX => ret1 Tryz.results118 heX rfl (s_take s_nil) ?_
    exact ⟨rfl, rfl⟩
end Go.Proofs.Qxb6500350aGreat
