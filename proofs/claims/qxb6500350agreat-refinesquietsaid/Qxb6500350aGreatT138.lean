/- MADE BY PROGRAM (tools350/mir.py): mirror and walk. -/
import Derived.Test.Qxb6500350aGreatF2
set_option linter.unusedVariables false
set_option linter.unusedSimpArgs false
set_option maxRecDepth 20000
set_option maxHeartbeats 4000000
namespace Go.Proofs.Qxb6500350aGreat
open Go.Eng

/- repo.seqOf -/
def m138_w1 (n : Nat) (refs : (List Ref_)) (name : Str) (mm : Nat) : Int → Int → Option (Int × Int) := it2 (fun lp1 c1 c2 =>
cond (decide (c1 < c2)) (
Option.bind (ixL refs (wi (Int.tdiv (wi (c1 + c2)) 2))) fun x1 =>
cond (sLt x1.name name) (
lp1 (wi ((wi (Int.tdiv (wi (c1 + c2)) 2)) + 1)) c2) (
lp1 c1 (wi (Int.tdiv (wi (c1 + c2)) 2)))) (
some (c1, c2))) mm
def m138 (n : Nat) (refs : (List Ref_)) (name : Str) : Option (Int × Bool) :=
ob2 (m138_w1 n refs name n 0 (refs.length : Int)) fun c3 c4 =>
ob1 (cond (decide (c3 < (refs.length : Int))) (Option.bind (ixL refs c3) fun x2 =>
some ((decide (x2.name = name)))) (some (false))) fun c5 =>
cond c5 (
Option.bind (ixL refs c3) fun x3 =>
some (x3.seq, true)) (
some (0, false))
theorem t138 {n : Nat} {C : List Chunk} {rc1 : Int} {rc2 : Bool} {v1 : Value} {refs : (List Ref_)} {name : Str} (hr1 : Rd rRef_ C v1 refs)  (hm : m138 n refs name = some (rc1, rc2)) : Trip Tryz.prog 138 #[v1, .string ⟨(name : Str).toArray⟩] ([] ++ [C]) (fun u S' => .tuple #[.int .i64 rc1, .bool rc2] = u ∧ S' = [] ++ [C]) := by
  refine fn_entry (args := [v1, .string ⟨(name : Str).toArray⟩]) Tryz.func138 rfl Tryz.ntmps138 rfl (fun w0 => ?_)
  refine c_seq ?_
  refine c_region ?_
  refine o_L (y_assign rfl) rfl rfl ?_
  refine o_L (y_assign rfl) rfl rfl ?_
  refine o_nil0 rfl ?_
  refine c_seq ?_
  refine c_region ?_
  refine o_T (y_move rfl) rfl ?_
  refine o_T (y_lenR hr1 Tryz.underlying56 rfl) rfl ?_
  refine o_L (y_assign rfl) rfl rfl ?_
  refine o_L (y_assign rfl) rfl rfl ?_
  refine o_nil0 rfl ?_
  refine c_seq ?_
  obtain ⟨c3, c4, hj1, hm⟩ := bd2 hm
  refine c_joinP (n := 0) (fun sh G => sh = [(6, .int .i64 c3), (7, .int .i64 c4)] ∧ G = []) (s_take s_nil) .z (fun _ _ h => h) ?_ ?_
  · skip
    refine c_block ?_
    refine c_loopP (n := 0) (fun mm sh G => ∃ (c1 : Int), ∃ (c2 : Int), sh = [(6, .int .i64 c1), (7, .int .i64 c2)] ∧ G = [] ∧ m138_w1 n refs name mm c1 c2 = some (c3, c4)) n (s_take s_nil) .z ⟨_, _, ⟨_, _, rfl, rfl, hj1⟩, ⟨rfl, rfl, trivial⟩, _, (s_take s_nil)⟩ ?_
    rintro mm sh G ⟨c1, c2, rfl, rfl, hm⟩
    obtain ⟨mm1, rfl, hm⟩ := it2_s hm
    refine c_seq ?_
    refine c_seq ?_
    refine c_region ?_
    refine o_T (y_move rfl) rfl ?_
    refine o_T (y_move rfl) rfl ?_
    refine o_T (y_lss rfl rfl) rfl ?_
    refine o_nil1 13 rfl rfl ?_
    refine c_cond rfl (fun h1 => ?_) (fun h1 => ?_)
    · have hm := cd_t h1 hm
      refine c_skip ?_
      refine c_block ?_
      refine c_seq ?_
      refine c_region ?_
      refine o_T (y_move rfl) rfl ?_
      refine o_T (y_move rfl) rfl ?_
      refine o_T (y_add rfl rfl rfl) rfl ?_
      refine o_T (y_quo rfl rfl (by decide) rfl) rfl ?_
      refine o_L (y_assign rfl) rfl rfl ?_
      refine o_nil0 rfl ?_
      refine c_seq ?_
      refine c_region ?_
      refine o_T (y_move rfl) rfl ?_
      refine o_T (y_move rfl) rfl ?_
      obtain ⟨x1, hx1, hm⟩ := bd hm
      obtain ⟨b1, w1, cs1, y1, z1, vs1, hc1, ha1, hr2, hy1⟩ := hr1.ix hx1
      obtain rfl : vs1 = Ref_.enc x1 := hr2
      refine o_T (hy1 sl_56 rfl rfl rfl) rfl ?_
      refine o_T (y_fa fl_96_0 rfl) rfl ?_
      refine o_ld one_9 rfl (mg hc1) (At.getA (ha1.comp Ref_.a_name)) rfl ?_
      refine o_T (y_move rfl) rfl ?_
      refine o_T (y_slt rfl rfl) rfl ?_
      refine o_nil1 24 rfl rfl ?_
      refine c_cond rfl (fun h2 => ?_) (fun h2 => ?_)
      · have hm := cd_t h2 hm
        refine c_region ?_
        refine o_T (y_move rfl) rfl ?_
        refine o_T (y_add rfl rfl rfl) rfl ?_
        refine o_L (y_assign rfl) rfl rfl ?_
        refine o_nil0 rfl ?_
        exact ⟨mm1, Nat.lt_succ_self _, _, _, ⟨_, _, rfl, rfl, hm⟩, ⟨rfl, rfl, trivial⟩, ⟨rfl, rfl⟩, _, (s_take s_nil)⟩
      · have hm := cd_f h2 hm
        refine c_region ?_
        refine o_T (y_move rfl) rfl ?_
        refine o_L (y_assign rfl) rfl rfl ?_
        refine o_nil0 rfl ?_
        exact ⟨mm1, Nat.lt_succ_self _, _, _, ⟨_, _, rfl, rfl, hm⟩, ⟨rfl, rfl, trivial⟩, ⟨rfl, rfl⟩, _, (s_take s_nil)⟩
    · have hm := cd_f h1 hm
      refine c_exit ?_
      obtain ⟨rfl, rfl⟩ := pr2 hm
      exact ⟨_, _, ⟨rfl, rfl⟩, ⟨rfl, rfl, trivial⟩, ⟨rfl, rfl⟩, _, (s_take s_nil)⟩
  · rintro sh G ⟨rfl, rfl⟩
    refine c_seq ?_
    refine c_seq ?_
    obtain ⟨c5, hj2, hm⟩ := bd1 hm
    refine c_joinP (n := 0) (fun sh G => sh = [(40, .bool c5)] ∧ G = []) Sel.all' .z (fun _ _ h => h) ?_ ?_
    · have hm := hj2
      refine c_region ?_
      refine o_T (y_move rfl) rfl ?_
      refine o_T (y_move rfl) rfl ?_
      refine o_T (y_lenR hr1 Tryz.underlying56 rfl) rfl ?_
      refine o_T (y_lss rfl rfl) rfl ?_
      refine o_T (y_move rfl) rfl ?_
      refine o_split 32 rfl (fun h3 => ?_) (fun h3 => ?_)
      · have hm := cd_t h3 hm
        refine o_take rfl rfl rfl ?_
        refine o_T (y_move rfl) rfl ?_
        refine o_take rfl rfl rfl ?_
        refine o_T (y_move rfl) rfl ?_
        refine o_take rfl rfl rfl ?_
        obtain ⟨x2, hx2, hm⟩ := bd hm
        obtain ⟨b2, w2, cs2, y2, z2, vs2, hc2, ha2, hr3, hy2⟩ := hr1.ix hx2
        obtain rfl : vs2 = Ref_.enc x2 := hr3
        refine o_T (hy2 sl_56 rfl rfl rfl) rfl ?_
        refine o_take rfl rfl rfl ?_
        refine o_T (y_fa fl_96_0 rfl) rfl ?_
        refine o_take rfl rfl rfl ?_
        refine o_ld one_9 rfl (mg hc2) (At.getA (ha2.comp Ref_.a_name)) rfl ?_
        refine o_take rfl rfl rfl ?_
        refine o_T (y_move rfl) rfl ?_
        refine o_take rfl rfl rfl ?_
        refine o_T (y_seq rfl rfl) rfl ?_
        refine o_T (y_pickT rfl rfl) rfl ?_
        refine o_nil1 40 rfl rfl ?_
        obtain rfl := p1 hm
        exact ⟨_, _, ⟨rfl, rfl⟩, ⟨rfl, trivial⟩, ⟨rfl, rfl⟩, _, (s_take s_nil)⟩
      · have hm := cd_f h3 hm
        refine o_pass rfl rfl rfl rfl rfl ?_
        refine o_pass rfl rfl rfl rfl rfl ?_
        refine o_pass rfl rfl rfl rfl rfl ?_
        refine o_pass rfl rfl rfl rfl rfl ?_
        refine o_pass rfl rfl rfl rfl rfl ?_
        refine o_pass rfl rfl rfl rfl rfl ?_
        refine o_pass rfl rfl rfl rfl rfl ?_
        refine o_T (y_pickF rfl rfl) rfl ?_
        refine o_nil1 40 rfl rfl ?_
        obtain rfl := p1 hm
        exact ⟨_, _, ⟨rfl, rfl⟩, ⟨rfl, trivial⟩, ⟨rfl, rfl⟩, _, (s_take s_nil)⟩
    · rintro sh G ⟨rfl, rfl⟩
      refine c_cond rfl (fun h4 => ?_) (fun h4 => ?_)
      · have hm := cd_t h4 hm
        refine c_seq ?_
        refine c_region ?_
        refine o_T (y_move rfl) rfl ?_
        refine o_T (y_move rfl) rfl ?_
        obtain ⟨x3, hx3, hm⟩ := bd hm
        obtain ⟨b3, w3, cs3, y3, z3, vs3, hc3, ha3, hr4, hy3⟩ := hr1.ix hx3
        obtain rfl : vs3 = Ref_.enc x3 := hr4
        refine o_T (hy3 sl_56 rfl rfl rfl) rfl ?_
        refine o_T (y_fa fl_96_1 rfl) rfl ?_
        refine o_ld one_3 rfl (mg hc3) (At.getA (ha3.comp Ref_.a_seq)) rfl ?_
        refine o_L (y_assign rfl) rfl rfl ?_
        refine o_L (y_assign rfl) rfl rfl ?_
        refine o_nil0 rfl ?_
        refine c_ret ?_
        obtain ⟨rfl, rfl⟩ := pr2 hm
        refine fun aX wX heX hsX => ret2 Tryz.results138 heX rfl rfl (s_take s_nil) ?_
        exact ⟨rfl, rfl⟩
      · have hm := cd_f h4 hm
        refine c_skip ?_
        refine c_seq ?_
        refine c_region ?_
        refine o_L (y_assign rfl) rfl rfl ?_
        refine o_L (y_assign rfl) rfl rfl ?_
        refine o_nil0 rfl ?_
        refine c_ret ?_
        obtain ⟨rfl, rfl⟩ := pr2 hm
        refine fun aX wX heX hsX => ret2 Tryz.results138 heX rfl rfl (s_take s_nil) ?_
        exact ⟨rfl, rfl⟩
end Go.Proofs.Qxb6500350aGreat
