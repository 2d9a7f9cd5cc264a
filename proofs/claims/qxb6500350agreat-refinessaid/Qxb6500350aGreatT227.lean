/- MADE BY PROGRAM (tools350/mir.py): mirror and walk. -/
import Derived.Test.Qxb6500350aGreatF2
set_option linter.unusedVariables false
set_option linter.unusedSimpArgs false
set_option maxRecDepth 20000
set_option maxHeartbeats 4000000
namespace Go.Proofs.Qxb6500350aGreat
open Go.Eng

/- repo.touched -/
def m227 (n : Nat) (c_ : (List Chg)) (i : Int) (p : Str) : Option (Bool) :=
ob1 (cond (decide (i < (c_.length : Int))) (Option.bind (ixL c_ i) fun x1 =>
some ((decide (x1.path = p)))) (some (false))) fun c1 =>
some c1
theorem t227 {n : Nat} {C : List Chunk} {rc1 : Bool} {v1 : Value} {c_ : (List Chg)} {i : Int} {p : Str} (hr1 : Rd rChg C v1 c_)  (hm : m227 n c_ i p = some rc1) : Trip Tryz.prog 227 #[v1, .int .i64 i, .string ⟨(p : Str).toArray⟩] ([] ++ [C]) (fun u S' => .bool rc1 = u ∧ S' = [] ++ [C]) := by
  refine fn_entry (args := [v1, .int .i64 i, .string ⟨(p : Str).toArray⟩]) Tryz.func227 rfl Tryz.ntmps227 rfl (fun w0 => ?_)
  refine c_seq ?_
  refine c_region ?_
  refine o_L (y_assign rfl) rfl rfl ?_
  refine o_nil0 rfl ?_
  refine c_seq ?_
  obtain ⟨c1, hj1, hm⟩ := bd1 hm
  refine c_joinP (n := 0) (fun sh G => sh = [(6, .bool c1)] ∧ G = []) Sel.all' .z (fun _ _ h => h) ?_ ?_
  · have hm := hj1
    refine c_region ?_
    refine o_T (y_move rfl) rfl ?_
    refine o_T (y_move rfl) rfl ?_
    refine o_T (y_lenR hr1 Tryz.underlying99 rfl) rfl ?_
    refine o_T (y_lss rfl rfl) rfl ?_
    refine o_T (y_move rfl) rfl ?_
    refine o_split 11 rfl (fun h1 => ?_) (fun h1 => ?_)
    · have hm := cd_t h1 hm
      refine o_take rfl rfl rfl ?_
      refine o_T (y_move rfl) rfl ?_
      refine o_take rfl rfl rfl ?_
      refine o_T (y_move rfl) rfl ?_
      refine o_take rfl rfl rfl ?_
      obtain ⟨x1, hx1, hm⟩ := bd hm
      obtain ⟨b1, w1, cs1, y1, z1, vs1, hc1, ha1, hr2, hy1⟩ := hr1.ix hx1
      obtain rfl : vs1 = Chg.enc x1 := hr2
      refine o_T (hy1 sl_99 rfl rfl rfl) rfl ?_
      refine o_take rfl rfl rfl ?_
      refine o_T (y_fa fl_196_0 rfl) rfl ?_
      refine o_take rfl rfl rfl ?_
      refine o_ld one_9 rfl (mg hc1) (At.getA (ha1.comp Chg.a_path)) rfl ?_
      refine o_take rfl rfl rfl ?_
      refine o_T (y_move rfl) rfl ?_
      refine o_take rfl rfl rfl ?_
      refine o_T (y_seq rfl rfl) rfl ?_
      refine o_T (y_pickT rfl rfl) rfl ?_
      refine o_L (y_assign rfl) rfl rfl ?_
      refine o_nil0 rfl ?_
      obtain rfl := p1 hm
      exact ⟨_, _, ⟨rfl, rfl⟩, ⟨rfl, trivial⟩, ⟨rfl, rfl⟩, _, (s_take s_nil)⟩
    · have hm := cd_f h1 hm
      refine o_pass rfl rfl rfl rfl rfl ?_
      refine o_pass rfl rfl rfl rfl rfl ?_
      refine o_pass rfl rfl rfl rfl rfl ?_
      refine o_pass rfl rfl rfl rfl rfl ?_
      refine o_pass rfl rfl rfl rfl rfl ?_
      refine o_pass rfl rfl rfl rfl rfl ?_
      refine o_pass rfl rfl rfl rfl rfl ?_
      refine o_T (y_pickF rfl rfl) rfl ?_
      refine o_L (y_assign rfl) rfl rfl ?_
      refine o_nil0 rfl ?_
      obtain rfl := p1 hm
      exact ⟨_, _, ⟨rfl, rfl⟩, ⟨rfl, trivial⟩, ⟨rfl, rfl⟩, _, (s_take s_nil)⟩
  · rintro sh G ⟨rfl, rfl⟩
    refine c_ret ?_
    obtain rfl := p1 hm
    refine fun aX wX heX hsX => ret1 Tryz.results227 heX rfl (s_take s_nil) ?_
    exact ⟨rfl, rfl⟩
end Go.Proofs.Qxb6500350aGreat
