/- MADE BY PROGRAM (tools350/mir.py): mirror and walk. -/
import Derived.Test.Qxb6500350aGreatF2
import Derived.Test.Qxb6500350aGreatT96
import Derived.Test.Qxb6500350aGreatT81
set_option linter.unusedVariables false
set_option linter.unusedSimpArgs false
set_option maxRecDepth 20000
set_option maxHeartbeats 4000000
namespace Go.Proofs.Qxb6500350aGreat
open Go.Eng

/- towerlaw.sameNode -/
def m101 (n : Nat) (a : Node) (b_ : Node) : Option (Bool) :=
cond ((decide (¬ (a.seq = b_.seq))) || (!(decide (a.msg = b_.msg)))) (
some false) (
ob1 (m96 n a.files b_.files) fun c1 =>
cond (!c1) (
some false) (
ob1 (m81 n a.parents b_.parents) fun c2 =>
some c2))
theorem t101 {n : Nat} {C : List Chunk} {rc1 : Bool} {a : Node} {v1 : Value} {v2 : Value} {b_ : Node} {v3 : Value} {v4 : Value} (hr1 : Rd rFile C v1 a.files) (hr2 : Rd rInt C v2 a.parents) (hr3 : Rd rFile C v3 b_.files) (hr4 : Rd rInt C v4 b_.parents)  (hm : m101 n a b_ = some rc1) : Trip Tryz.prog 101 #[.agg (Node.enc (v1) (v2) a).toArray, .agg (Node.enc (v3) (v4) b_).toArray] ([] ++ [C]) (fun u S' => .bool rc1 = u ∧ S' = [] ++ [C]) := by
  refine fn_entry (args := [.agg (Node.enc (v1) (v2) a).toArray, .agg (Node.enc (v3) (v4) b_).toArray]) Tryz.func101 rfl Tryz.ntmps101 rfl (fun w0 => ?_)
  refine c_seq ?_
  refine c_region ?_
  refine o_box rfl rfl rfl rfl (fun b1 => ?_)
  refine o_box rfl rfl rfl rfl (fun b2 => ?_)
  refine o_L (y_assign rfl) rfl rfl ?_
  refine o_nil0 rfl ?_
  refine c_seq ?_
  refine c_seq ?_
  refine c_joinP (n := 0) (fun sh G => sh = [(16, .bool ((decide (¬ (a.seq = b_.seq))) || (!(decide (a.msg = b_.msg)))))] ∧ G = []) Sel.all' .z (fun _ _ h => h) ?_ ?_
  · skip
    refine c_region ?_
    refine o_T (y_fa fl_93_0 rfl) rfl ?_
    refine o_ld one_3 rfl (ms m0) (At.got (At.refl.comp Node.a_seq)) rfl ?_
    refine o_T (y_fa fl_93_0 rfl) rfl ?_
    refine o_ld one_3 rfl m0 (At.got (At.refl.comp Node.a_seq)) rfl ?_
    refine o_T (y_neq rfl rfl) rfl ?_
    refine o_T (y_move rfl) rfl ?_
    refine o_split 10 rfl (fun h1 => ?_) (fun h1 => ?_)
    · skip
      refine o_pass rfl rfl rfl rfl rfl ?_
      refine o_pass rfl rfl rfl rfl rfl ?_
      refine o_pass rfl rfl rfl rfl rfl ?_
      refine o_pass rfl rfl rfl rfl rfl ?_
      refine o_pass rfl rfl rfl rfl rfl ?_
      refine o_T (y_pickT rfl rfl) rfl ?_
      refine o_nil1 16 rfl rfl ?_
      refine ⟨_, _, ⟨rfl, rfl⟩, ⟨by first | rfl | exact gtb rfl (by simp only [h1, Bool.true_and, Bool.false_and, Bool.true_or, Bool.false_or, Bool.and_true, Bool.and_false, Bool.or_true, Bool.or_false, Bool.not_true, Bool.not_false]), trivial⟩, ⟨rfl, rfl⟩, _, (s_take (s_take (s_take s_nil)))⟩
    · skip
      refine o_take rfl rfl rfl ?_
      refine o_T (y_fa fl_93_3 rfl) rfl ?_
      refine o_take rfl rfl rfl ?_
      refine o_ld one_9 rfl (ms m0) (At.got (At.refl.comp Node.a_msg)) rfl ?_
      refine o_take rfl rfl rfl ?_
      refine o_T (y_fa fl_93_3 rfl) rfl ?_
      refine o_take rfl rfl rfl ?_
      refine o_ld one_9 rfl m0 (At.got (At.refl.comp Node.a_msg)) rfl ?_
      refine o_take rfl rfl rfl ?_
      refine o_T (y_sne rfl rfl) rfl ?_
      refine o_T (y_pickF rfl rfl) rfl ?_
      refine o_nil1 16 rfl rfl ?_
      refine ⟨_, _, ⟨rfl, rfl⟩, ⟨by first | rfl | exact gtb rfl (by simp only [h1, Bool.true_and, Bool.false_and, Bool.true_or, Bool.false_or, Bool.and_true, Bool.and_false, Bool.or_true, Bool.or_false, Bool.not_true, Bool.not_false]), trivial⟩, ⟨rfl, rfl⟩, _, (s_take (s_take (s_take s_nil)))⟩
  · rintro sh G ⟨rfl, rfl⟩
    refine c_cond rfl (fun h2 => ?_) (fun h2 => ?_)
    · have hm := cd_t h2 hm
      refine c_seq ?_
      refine c_region ?_
      refine o_L (y_assign rfl) rfl rfl ?_
      refine o_nil0 rfl ?_
      refine c_ret ?_
      obtain rfl := p1 hm
      refine fun aX wX heX hsX => ret1 Tryz.results101 heX rfl (s_skip (s_skip (s_take s_nil))) ?_
      exact ⟨rfl, rfl⟩
    · have hm := cd_f h2 hm
      refine c_skip ?_
      refine c_seq ?_
      refine c_seq ?_
      refine c_region ?_
      refine o_T (y_fa fl_93_1 rfl) rfl ?_
      refine o_ld one_57 rfl (ms m0) (At.got (At.refl.comp Node.a_files)) rfl ?_
      refine o_T (y_fa fl_93_1 rfl) rfl ?_
      refine o_ld one_57 rfl m0 (At.got (At.refl.comp Node.a_files)) rfl ?_
      obtain ⟨c1, hx1, hm⟩ := bd1 hm
      refine o_callC en_96 rfl s_nil (t96 (hr1.mono (fun _ hz => (ms (ms (mg hz))))) (hr3.mono (fun _ hz => (ms (ms (mg hz))))) hx1) rfl (fun u1 S1 hR1 => ?_)
      obtain ⟨rfl, rfl⟩ := hR1
      refine o_rest ?_
      refine o_T (y_not rfl) rfl ?_
      refine o_nil1 22 rfl rfl ?_
      refine c_cond rfl (fun h3 => ?_) (fun h3 => ?_)
      · have hm := cd_t h3 hm
        refine c_seq ?_
        refine c_region ?_
        refine o_L (y_assign rfl) rfl rfl ?_
        refine o_nil0 rfl ?_
        refine c_ret ?_
        obtain rfl := p1 hm
        refine fun aX wX heX hsX => ret1 Tryz.results101 heX rfl (s_skip (s_skip (s_take s_nil))) ?_
        exact ⟨rfl, rfl⟩
      · have hm := cd_f h3 hm
        refine c_skip ?_
        refine c_seq ?_
        refine c_region ?_
        refine o_T (y_fa fl_93_2 rfl) rfl ?_
        refine o_ld one_65 rfl (ms m0) (At.got (At.refl.comp Node.a_parents)) rfl ?_
        refine o_T (y_fa fl_93_2 rfl) rfl ?_
        refine o_ld one_65 rfl m0 (At.got (At.refl.comp Node.a_parents)) rfl ?_
        obtain ⟨c2, hx2, hm⟩ := bd1 hm
        refine o_callC en_81 rfl s_nil (t81 (hr2.mono (fun _ hz => (ms (ms (mg hz))))) (hr4.mono (fun _ hz => (ms (ms (mg hz))))) hx2) rfl (fun u2 S2 hR2 => ?_)
        obtain ⟨rfl, rfl⟩ := hR2
        refine o_rest ?_
        refine o_L (y_assign rfl) rfl rfl ?_
        refine o_nil0 rfl ?_
        refine c_ret ?_
        obtain rfl := p1 hm
        refine fun aX wX heX hsX => ret1 Tryz.results101 heX rfl (s_skip (s_skip (s_take s_nil))) ?_
        exact ⟨rfl, rfl⟩
end Go.Proofs.Qxb6500350aGreat
