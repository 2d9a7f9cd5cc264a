/- MADE BY PROGRAM (tools350/mir.py): mirror and walk. -/
import Derived.Test.Qxb6500350aGreatF2
import Derived.Test.Qxb6500350aGreatT310
set_option linter.unusedVariables false
set_option linter.unusedSimpArgs false
set_option maxRecDepth 20000
set_option maxHeartbeats 4000000
namespace Go.Proofs.Qxb6500350aGreat
open Go.Eng

/- api.closed -/
def m311 (n : Nat) (l : (List Str)) : Option (Str) :=
ob1 (m310 n l) fun c1 =>
ob1 (cond (decide ((0 : Int) < (c1.length : Int))) (Option.bind (sIx c1 (wi ((c1.length : Int) - 1))) fun c3 =>
some ((decide (¬ ((c3.toNat : Int) = 10))))) (some (false))) fun c2 =>
cond c2 (
Option.bind (sAdd c1 [10]) fun s1 =>
some s1) (
some c1)
theorem t311 {n : Nat} {C : List Chunk} {rc1 : Str} {v1 : Value} {l : (List Str)} (hr1 : Rd rStr C v1 l)  (hm : m311 n l = some rc1) : Trip Tryz.prog 311 #[v1] ([] ++ [C]) (fun u S' => .string ⟨(rc1 : Str).toArray⟩ = u ∧ S' = [] ++ [C]) := by
  refine fn_entry (args := [v1]) Tryz.func311 rfl Tryz.ntmps311 rfl (fun w0 => ?_)
  refine c_seq ?_
  refine c_region ?_
  refine o_L (y_assign rfl) rfl rfl ?_
  refine o_nil0 rfl ?_
  refine c_seq ?_
  refine c_region ?_
  refine o_T (y_move rfl) rfl ?_
  obtain ⟨c1, hx1, hm⟩ := bd1 hm
  refine o_callC en_310 rfl s_nil (t310 (hr1.mono (fun _ hz => (mg hz))) hx1) rfl (fun u1 S1 hR1 => ?_)
  obtain ⟨rfl, rfl⟩ := hR1
  refine o_rest ?_
  refine o_L (y_assign rfl) rfl rfl ?_
  refine o_nil0 rfl ?_
  refine c_seq ?_
  refine c_seq ?_
  obtain ⟨c2, hj1, hm⟩ := bd1 hm
  refine c_joinP (n := 0) (fun sh G => sh = [(16, .bool c2)] ∧ G = []) Sel.all' .z (fun _ _ h => h) ?_ ?_
  · have hm := hj1
    refine c_region ?_
    refine o_T (y_move rfl) rfl ?_
    refine o_T (y_slen Tryz.underlying9 rfl) rfl ?_
    refine o_T (y_gtr rfl rfl) rfl ?_
    refine o_T (y_move rfl) rfl ?_
    refine o_split 9 rfl (fun h1 => ?_) (fun h1 => ?_)
    · have hm := cd_t h1 hm
      refine o_take rfl rfl rfl ?_
      refine o_T (y_move rfl) rfl ?_
      refine o_take rfl rfl rfl ?_
      refine o_T (y_move rfl) rfl ?_
      refine o_take rfl rfl rfl ?_
      refine o_T (y_slen Tryz.underlying9 rfl) rfl ?_
      refine o_take rfl rfl rfl ?_
      refine o_T (y_sub rfl rfl rfl) rfl ?_
      refine o_take rfl rfl rfl ?_
      obtain ⟨c3, hx2, hm⟩ := bd hm
      refine o_T (y_sidx Tryz.underlying9 rfl rfl hx2) rfl ?_
      refine o_take rfl rfl rfl ?_
      refine o_T (y_neq rfl rfl) rfl ?_
      refine o_T (y_pickT rfl rfl) rfl ?_
      refine o_nil1 16 rfl rfl ?_
      obtain rfl := p1 hm
      exact ⟨_, _, ⟨rfl, rfl⟩, ⟨rfl, trivial⟩, ⟨rfl, rfl⟩, _, (s_take s_nil)⟩
    · have hm := cd_f h1 hm
      refine o_pass rfl rfl rfl rfl rfl ?_
      refine o_pass rfl rfl rfl rfl rfl ?_
      refine o_pass rfl rfl rfl rfl rfl ?_
      refine o_pass rfl rfl rfl rfl rfl ?_
      refine o_pass rfl rfl rfl rfl rfl ?_
      refine o_pass rfl rfl rfl rfl rfl ?_
      refine o_T (y_pickF rfl rfl) rfl ?_
      refine o_nil1 16 rfl rfl ?_
      obtain rfl := p1 hm
      exact ⟨_, _, ⟨rfl, rfl⟩, ⟨rfl, trivial⟩, ⟨rfl, rfl⟩, _, (s_take s_nil)⟩
  · rintro sh G ⟨rfl, rfl⟩
    refine c_cond rfl (fun h2 => ?_) (fun h2 => ?_)
    · have hm := cd_t h2 hm
      refine c_region ?_
      refine o_T (y_move rfl) rfl ?_
      obtain ⟨s1, hx3, hm⟩ := bd hm
      refine o_T (y_sadd rfl rfl hx3) rfl ?_
      refine o_L (y_assign rfl) rfl rfl ?_
      refine o_nil0 rfl ?_
      refine c_seq ?_
      refine c_region ?_
      refine o_T (y_move rfl) rfl ?_
      refine o_L (y_assign rfl) rfl rfl ?_
      refine o_nil0 rfl ?_
      refine c_ret ?_
      obtain rfl := p1 hm
      refine fun aX wX heX hsX => ret1 Tryz.results311 heX rfl (s_take s_nil) ?_
      exact ⟨rfl, rfl⟩
    · have hm := cd_f h2 hm
      refine c_skip ?_
      refine c_seq ?_
      refine c_region ?_
      refine o_T (y_move rfl) rfl ?_
      refine o_L (y_assign rfl) rfl rfl ?_
      refine o_nil0 rfl ?_
      refine c_ret ?_
      obtain rfl := p1 hm
      refine fun aX wX heX hsX => ret1 Tryz.results311 heX rfl (s_take s_nil) ?_
      exact ⟨rfl, rfl⟩
end Go.Proofs.Qxb6500350aGreat
