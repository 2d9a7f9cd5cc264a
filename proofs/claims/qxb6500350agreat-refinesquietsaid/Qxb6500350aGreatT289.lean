/- MADE BY PROGRAM (tools350/mir.py): mirror and walk. -/
import Derived.Test.Qxb6500350aGreatF2
set_option linter.unusedVariables false
set_option linter.unusedSimpArgs false
set_option maxRecDepth 20000
set_option maxHeartbeats 4000000
namespace Go.Proofs.Qxb6500350aGreat
open Go.Eng

/- graph.nameAt -/
def m289 (n : Nat) (d : (List UInt8)) (at_ : Int) : Option (Str × Int × Bool) :=
cond ((decide (at_ < 0)) || (decide ((d.length : Int) ≤ at_))) (
some ([], 0, false)) (
Option.bind (ixL d at_) fun x1 =>
cond ((decide ((6 : Int) < (x1.toNat : Int))) || (decide ((wi ((wi ((d.length : Int) - at_)) - 1)) < (x1.toNat : Int)))) (
some ([], 0, false)) (
Option.bind (slL d (wi (at_ + 1)) (wi ((wi (at_ + 1)) + (x1.toNat : Int)))) fun l1 =>
some (l1, (wi ((wi (at_ + 1)) + (x1.toNat : Int))), true)))
theorem t289 {n : Nat} {C : List Chunk} {rc1 : Str} {rc2 : Int} {rc3 : Bool} {v1 : Value} {d : (List UInt8)} {at_ : Int} (hr1 : Rd rByte C v1 d)  (hm : m289 n d at_ = some (rc1, rc2, rc3)) : Trip Tryz.prog 289 #[v1, .int .i64 at_] ([] ++ [C]) (fun u S' => .tuple #[.string ⟨(rc1 : Str).toArray⟩, .int .i64 rc2, .bool rc3] = u ∧ S' = [] ++ [C]) := by
  refine fn_entry (args := [v1, .int .i64 at_]) Tryz.func289 rfl Tryz.ntmps289 rfl (fun w0 => ?_)
  refine c_seq ?_
  refine c_region ?_
  refine o_L (y_assign rfl) rfl rfl ?_
  refine o_L (y_assign rfl) rfl rfl ?_
  refine o_L (y_assign rfl) rfl rfl ?_
  refine o_nil0 rfl ?_
  refine c_seq ?_
  refine c_seq ?_
  refine c_joinP (n := 0) (fun sh G => sh = [(15, .bool ((decide (at_ < 0)) || (decide ((d.length : Int) ≤ at_))))] ∧ G = []) Sel.all' .z (fun _ _ h => h) ?_ ?_
  · skip
    refine c_region ?_
    refine o_T (y_move rfl) rfl ?_
    refine o_T (y_lss rfl rfl) rfl ?_
    refine o_T (y_move rfl) rfl ?_
    refine o_split 10 rfl (fun h1 => ?_) (fun h1 => ?_)
    · skip
      refine o_pass rfl rfl rfl rfl rfl ?_
      refine o_pass rfl rfl rfl rfl rfl ?_
      refine o_pass rfl rfl rfl rfl rfl ?_
      refine o_pass rfl rfl rfl rfl rfl ?_
      refine o_T (y_pickT rfl rfl) rfl ?_
      refine o_nil1 15 rfl rfl ?_
      refine ⟨_, _, ⟨rfl, rfl⟩, ⟨by first | rfl | exact gtb rfl (by simp only [h1, Bool.true_and, Bool.false_and, Bool.true_or, Bool.false_or, Bool.and_true, Bool.and_false, Bool.or_true, Bool.or_false, Bool.not_true, Bool.not_false]), trivial⟩, ⟨rfl, rfl⟩, _, (s_take s_nil)⟩
    · skip
      refine o_take rfl rfl rfl ?_
      refine o_T (y_move rfl) rfl ?_
      refine o_take rfl rfl rfl ?_
      refine o_T (y_move rfl) rfl ?_
      refine o_take rfl rfl rfl ?_
      refine o_T (y_lenR hr1 Tryz.underlying81 rfl) rfl ?_
      refine o_take rfl rfl rfl ?_
      refine o_T (y_geq rfl rfl) rfl ?_
      refine o_T (y_pickF rfl rfl) rfl ?_
      refine o_nil1 15 rfl rfl ?_
      refine ⟨_, _, ⟨rfl, rfl⟩, ⟨by first | rfl | exact gtb rfl (by simp only [h1, Bool.true_and, Bool.false_and, Bool.true_or, Bool.false_or, Bool.and_true, Bool.and_false, Bool.or_true, Bool.or_false, Bool.not_true, Bool.not_false]), trivial⟩, ⟨rfl, rfl⟩, _, (s_take s_nil)⟩
  · rintro sh G ⟨rfl, rfl⟩
    refine c_cond rfl (fun h2 => ?_) (fun h2 => ?_)
    · have hm := cd_t h2 hm
      refine c_seq ?_
      refine c_region ?_
      refine o_L (y_assign rfl) rfl rfl ?_
      refine o_L (y_assign rfl) rfl rfl ?_
      refine o_L (y_assign rfl) rfl rfl ?_
      refine o_nil0 rfl ?_
      refine c_ret ?_
      obtain ⟨rfl, rfl, rfl⟩ := pr3 hm
      refine fun aX wX heX hsX => ret3 Tryz.results289 heX rfl rfl rfl (s_take s_nil) ?_
      exact ⟨rfl, rfl⟩
    · have hm := cd_f h2 hm
      refine c_skip ?_
      refine c_seq ?_
      refine c_region ?_
      refine o_T (y_move rfl) rfl ?_
      refine o_T (y_move rfl) rfl ?_
      obtain ⟨x1, hx1, hm⟩ := bd hm
      obtain ⟨b1, w1, cs1, y1, z1, vs1, hc1, ha1, hr2, hy1⟩ := hr1.ix hx1
      obtain rfl : vs1 = (enc8 x1) := hr2
      refine o_T (hy1 sl_81 rfl rfl rfl) rfl ?_
      refine o_ld one_5 rfl (mg hc1) (At.getA (ha1)) rfl ?_
      refine o_T (y_conv Tryz.underlying5 Tryz.underlying3 rfl (wbi _)) rfl ?_
      refine o_L (y_assign rfl) rfl rfl ?_
      refine o_nil0 rfl ?_
      refine c_seq ?_
      refine c_seq ?_
      refine c_joinP (n := 0) (fun sh G => sh = [(31, .bool ((decide ((6 : Int) < (x1.toNat : Int))) || (decide ((wi ((wi ((d.length : Int) - at_)) - 1)) < (x1.toNat : Int)))))] ∧ G = []) Sel.all' .z (fun _ _ h => h) ?_ ?_
      · skip
        refine c_region ?_
        refine o_T (y_move rfl) rfl ?_
        refine o_T (y_gtr rfl rfl) rfl ?_
        refine o_T (y_move rfl) rfl ?_
        refine o_split 23 rfl (fun h3 => ?_) (fun h3 => ?_)
        · skip
          refine o_pass rfl rfl rfl rfl rfl ?_
          refine o_pass rfl rfl rfl rfl rfl ?_
          refine o_pass rfl rfl rfl rfl rfl ?_
          refine o_pass rfl rfl rfl rfl rfl ?_
          refine o_pass rfl rfl rfl rfl rfl ?_
          refine o_pass rfl rfl rfl rfl rfl ?_
          refine o_pass rfl rfl rfl rfl rfl ?_
          refine o_T (y_pickT rfl rfl) rfl ?_
          refine o_nil1 31 rfl rfl ?_
          refine ⟨_, _, ⟨rfl, rfl⟩, ⟨by first | rfl | exact gtb rfl (by simp only [h3, Bool.true_and, Bool.false_and, Bool.true_or, Bool.false_or, Bool.and_true, Bool.and_false, Bool.or_true, Bool.or_false, Bool.not_true, Bool.not_false]), trivial⟩, ⟨rfl, rfl⟩, _, (s_take s_nil)⟩
        · skip
          refine o_take rfl rfl rfl ?_
          refine o_T (y_move rfl) rfl ?_
          refine o_take rfl rfl rfl ?_
          refine o_T (y_move rfl) rfl ?_
          refine o_take rfl rfl rfl ?_
          refine o_T (y_lenR hr1 Tryz.underlying81 rfl) rfl ?_
          refine o_take rfl rfl rfl ?_
          refine o_T (y_move rfl) rfl ?_
          refine o_take rfl rfl rfl ?_
          refine o_T (y_sub rfl rfl rfl) rfl ?_
          refine o_take rfl rfl rfl ?_
          refine o_T (y_sub rfl rfl rfl) rfl ?_
          refine o_take rfl rfl rfl ?_
          refine o_T (y_gtr rfl rfl) rfl ?_
          refine o_T (y_pickF rfl rfl) rfl ?_
          refine o_nil1 31 rfl rfl ?_
          refine ⟨_, _, ⟨rfl, rfl⟩, ⟨by first | rfl | exact gtb rfl (by simp only [h3, Bool.true_and, Bool.false_and, Bool.true_or, Bool.false_or, Bool.and_true, Bool.and_false, Bool.or_true, Bool.or_false, Bool.not_true, Bool.not_false]), trivial⟩, ⟨rfl, rfl⟩, _, (s_take s_nil)⟩
      · rintro sh G ⟨rfl, rfl⟩
        refine c_cond rfl (fun h4 => ?_) (fun h4 => ?_)
        · have hm := cd_t h4 hm
          refine c_seq ?_
          refine c_region ?_
          refine o_L (y_assign rfl) rfl rfl ?_
          refine o_L (y_assign rfl) rfl rfl ?_
          refine o_L (y_assign rfl) rfl rfl ?_
          refine o_nil0 rfl ?_
          refine c_ret ?_
          obtain ⟨rfl, rfl, rfl⟩ := pr3 hm
          refine fun aX wX heX hsX => ret3 Tryz.results289 heX rfl rfl rfl (s_take s_nil) ?_
          exact ⟨rfl, rfl⟩
        · have hm := cd_f h4 hm
          refine c_skip ?_
          refine c_seq ?_
          refine c_region ?_
          refine o_T (y_move rfl) rfl ?_
          refine o_T (y_move rfl) rfl ?_
          refine o_T (y_add rfl rfl rfl) rfl ?_
          refine o_T (y_move rfl) rfl ?_
          refine o_T (y_add rfl rfl rfl) rfl ?_
          refine o_T (y_move rfl) rfl ?_
          refine o_T (y_add rfl rfl rfl) rfl ?_
          obtain ⟨l1, hx2, hm⟩ := bd hm
          obtain ⟨v2, hr3, hy2⟩ := hr1.sl hx2
          refine o_T (hy2 sl_81 rfl rfl (biS rfl) (biS rfl)) rfl ?_
          refine o_b2s Tryz.underlying81 Tryz.underlying5 Tryz.underlying9 rfl hr3 (fun _ hz => (mg hz)) rfl ?_
          refine o_T (y_move rfl) rfl ?_
          refine o_T (y_add rfl rfl rfl) rfl ?_
          refine o_T (y_move rfl) rfl ?_
          refine o_T (y_add rfl rfl rfl) rfl ?_
          refine o_L (y_assign rfl) rfl rfl ?_
          refine o_L (y_assign rfl) rfl rfl ?_
          refine o_L (y_assign rfl) rfl rfl ?_
          refine o_nil0 rfl ?_
          refine c_ret ?_
          obtain ⟨rfl, rfl, rfl⟩ := pr3 hm
          refine fun aX wX heX hsX => ret3 Tryz.results289 heX rfl rfl rfl (s_take s_nil) ?_
          exact ⟨rfl, rfl⟩
end Go.Proofs.Qxb6500350aGreat
