/- MADE BY PROGRAM (tools350/mir.py): mirror and walk. -/
import Derived.Test.Qxb6500350aGreatF2
set_option linter.unusedVariables false
set_option linter.unusedSimpArgs false
set_option maxRecDepth 20000
set_option maxHeartbeats 4000000
namespace Go.Proofs.Qxb6500350aGreat
open Go.Eng

/- index.partEnd -/
def m268_w1 (n : Nat) (path : Str) (mm : Nat) : Int → Option (Int) := it1 (fun lp1 c1 =>
ob1 (cond (decide (c1 < (path.length : Int))) (Option.bind (sIx path c1) fun c4 =>
some ((decide (¬ ((c4.toNat : Int) = 47))))) (some (false))) fun c3 =>
cond c3 (
lp1 (wi (c1 + 1))) (
some c1)) mm
def m268 (n : Nat) (path : Str) (at_ : Int) : Option (Int) :=
ob1 (m268_w1 n path n at_) fun c2 =>
some c2
theorem t268 {n : Nat} {C : List Chunk} {rc1 : Int} {path : Str} {at_ : Int}   (hm : m268 n path at_ = some rc1) : Trip Tryz.prog 268 #[.string ⟨(path : Str).toArray⟩, .int .i64 at_] ([] ++ [C]) (fun u S' => .int .i64 rc1 = u ∧ S' = [] ++ [C]) := by
  refine fn_entry (args := [.string ⟨(path : Str).toArray⟩, .int .i64 at_]) Tryz.func268 rfl Tryz.ntmps268 rfl (fun w0 => ?_)
  refine c_seq ?_
  refine c_region ?_
  refine o_L (y_assign rfl) rfl rfl ?_
  refine o_nil0 rfl ?_
  refine c_seq ?_
  obtain ⟨c2, hj1, hm⟩ := bd1 hm
  refine c_joinP (n := 0) (fun sh G => sh = [(1, .int .i64 c2)] ∧ G = []) (s_take s_nil) .z (fun _ _ h => h) ?_ ?_
  · skip
    refine c_block ?_
    refine c_loopP (n := 0) (fun mm sh G => ∃ (c1 : Int), sh = [(1, .int .i64 c1)] ∧ G = [] ∧ m268_w1 n path mm c1 = some c2) n (s_take s_nil) .z ⟨_, _, ⟨_, rfl, rfl, hj1⟩, ⟨rfl, trivial⟩, _, (s_take s_nil)⟩ ?_
    rintro mm sh G ⟨c1, rfl, rfl, hm⟩
    obtain ⟨mm1, rfl, hm⟩ := it1_s hm
    refine c_seq ?_
    refine c_seq ?_
    obtain ⟨c3, hj2, hm⟩ := bd1 hm
    refine c_joinP (n := 0) (fun sh G => sh = [(14, .bool c3)] ∧ G = []) Sel.all' .z (fun _ _ h => h) ?_ ?_
    · have hm := hj2
      refine c_region ?_
      refine o_T (y_move rfl) rfl ?_
      refine o_T (y_move rfl) rfl ?_
      refine o_T (y_slen Tryz.underlying9 rfl) rfl ?_
      refine o_T (y_lss rfl rfl) rfl ?_
      refine o_T (y_move rfl) rfl ?_
      refine o_split 9 rfl (fun h1 => ?_) (fun h1 => ?_)
      · have hm := cd_t h1 hm
        refine o_take rfl rfl rfl ?_
        refine o_T (y_move rfl) rfl ?_
        refine o_take rfl rfl rfl ?_
        refine o_T (y_move rfl) rfl ?_
        refine o_take rfl rfl rfl ?_
        obtain ⟨c4, hx1, hm⟩ := bd hm
        refine o_T (y_sidx Tryz.underlying9 rfl rfl hx1) rfl ?_
        refine o_take rfl rfl rfl ?_
        refine o_T (y_neq rfl rfl) rfl ?_
        refine o_T (y_pickT rfl rfl) rfl ?_
        refine o_nil1 14 rfl rfl ?_
        obtain rfl := p1 hm
        exact ⟨_, _, ⟨rfl, rfl⟩, ⟨rfl, trivial⟩, ⟨rfl, rfl⟩, _, (s_take s_nil)⟩
      · have hm := cd_f h1 hm
        refine o_pass rfl rfl rfl rfl rfl ?_
        refine o_pass rfl rfl rfl rfl rfl ?_
        refine o_pass rfl rfl rfl rfl rfl ?_
        refine o_pass rfl rfl rfl rfl rfl ?_
        refine o_T (y_pickF rfl rfl) rfl ?_
        refine o_nil1 14 rfl rfl ?_
        obtain rfl := p1 hm
        exact ⟨_, _, ⟨rfl, rfl⟩, ⟨rfl, trivial⟩, ⟨rfl, rfl⟩, _, (s_take s_nil)⟩
    · rintro sh G ⟨rfl, rfl⟩
      refine c_cond rfl (fun h2 => ?_) (fun h2 => ?_)
      · have hm := cd_t h2 hm
        refine c_skip ?_
        refine c_block ?_
        refine c_region ?_
        refine o_T (y_move rfl) rfl ?_
        refine o_T (y_add rfl rfl rfl) rfl ?_
        refine o_L (y_assign rfl) rfl rfl ?_
        refine o_nil0 rfl ?_
        exact ⟨mm1, Nat.lt_succ_self _, _, _, ⟨_, rfl, rfl, hm⟩, ⟨rfl, trivial⟩, ⟨rfl, rfl⟩, _, (s_take s_nil)⟩
      · have hm := cd_f h2 hm
        refine c_exit ?_
        obtain rfl := p1 hm
        exact ⟨_, _, ⟨rfl, rfl⟩, ⟨rfl, trivial⟩, ⟨rfl, rfl⟩, _, (s_take s_nil)⟩
  · rintro sh G ⟨rfl, rfl⟩
    refine c_seq ?_
    refine c_region ?_
    refine o_T (y_move rfl) rfl ?_
    refine o_L (y_assign rfl) rfl rfl ?_
    refine o_nil0 rfl ?_
    refine c_ret ?_
    obtain rfl := p1 hm
    refine fun aX wX heX hsX => ret1 Tryz.results268 heX rfl (s_take s_nil) ?_
    exact ⟨rfl, rfl⟩
end Go.Proofs.Qxb6500350aGreat
