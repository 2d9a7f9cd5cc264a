/- MADE BY PROGRAM (tools350/mir.py): mirror and walk. -/
import Derived.Test.Qxb6500350aGreatF2
import Derived.Test.Qxb6500350aGreatT113
import Derived.Test.Qxb6500350aGreatT204
import Derived.Test.Qxb6500350aGreatT206
set_option linter.unusedVariables false
set_option linter.unusedSimpArgs false
set_option maxRecDepth 20000
set_option maxHeartbeats 4000000
namespace Go.Proofs.Qxb6500350aGreat
open Go.Eng

/- (*index.Index).Del -/
def m121 (n : Nat) (x : Index) (path : Str) : Option (Int × Index) :=
ob1 (m113 n path) fun c1 =>
cond (!c1) (
some (13, x)) (
ob2 (m204 n x path) fun c2 c3 =>
cond ((decide (c2 = 0)) || c3) (
some (13, x)) (
ob1 (m206 n x path) fun z1 =>
some (0, z1)))
theorem t121 {n : Nat} {C : List Chunk} {rc1 : Int} {rz1 : Index} {b1 : Nat} {x : Index} {path : Str}   (hm : m121 n x path = some (rc1, rz1)) : Trip Tryz.prog 121 #[.pointer (some ⟨b1, 0, none⟩), .string ⟨(path : Str).toArray⟩] ([[(b1, .cells (Index.enc x).toArray 184 (0, 0))]] ++ [C]) (fun u S' => .int .i64 rc1 = u ∧ S' = [[(b1, .cells (Index.enc rz1).toArray 184 (0, 0))]] ++ [C]) := by
  refine fn_entry (args := [.pointer (some ⟨b1, 0, none⟩), .string ⟨(path : Str).toArray⟩]) Tryz.func121 rfl Tryz.ntmps121 rfl (fun w0 => ?_)
  refine c_seq ?_
  refine c_region ?_
  refine o_L (y_assign rfl) rfl rfl ?_
  refine o_nil0 rfl ?_
  refine c_seq ?_
  refine c_region ?_
  refine o_T (y_move rfl) rfl ?_
  obtain ⟨c1, hx1, hm⟩ := bd1 hm
  refine o_callC en_113 rfl s_nil (t113 hx1) rfl (fun u1 S1 hR1 => ?_)
  obtain ⟨rfl, rfl⟩ := hR1
  refine o_rest ?_
  refine o_L (y_assign rfl) rfl rfl ?_
  refine o_nil0 rfl ?_
  refine c_seq ?_
  refine c_seq ?_
  refine c_region ?_
  refine o_T (y_move rfl) rfl ?_
  refine o_T (y_not rfl) rfl ?_
  refine o_nil1 11 rfl rfl ?_
  refine c_cond rfl (fun h1 => ?_) (fun h1 => ?_)
  · have hm := cd_t h1 hm
    refine c_seq ?_
    refine c_region ?_
    refine o_L (y_assign rfl) rfl rfl ?_
    refine o_nil0 rfl ?_
    refine c_ret ?_
    obtain ⟨rfl, rfl⟩ := pr2 hm
    refine fun aX wX heX hsX => ret1 Tryz.results121 heX rfl (s_take (s_take s_nil)) ?_
    exact ⟨rfl, rfl⟩
  · have hm := cd_f h1 hm
    refine c_skip ?_
    refine c_seq ?_
    refine c_region ?_
    refine o_T (y_move rfl) rfl ?_
    refine o_T (y_move rfl) rfl ?_
    obtain ⟨c2, c3, hx2, hm⟩ := bd2 hm
    refine o_callC en_204 rfl (s_take s_nil) (t204 hx2) rfl (fun u2 S2 hR2 => ?_)
    obtain ⟨rfl, rfl⟩ := hR2
    refine o_rest ?_
    refine o_T (y_move rfl) rfl ?_
    refine o_T (y_extract rfl rfl) rfl ?_
    refine o_T (y_extract rfl rfl) rfl ?_
    refine o_L (y_assign rfl) rfl rfl ?_
    refine o_L (y_assign rfl) rfl rfl ?_
    refine o_nil0 rfl ?_
    refine c_seq ?_
    refine c_seq ?_
    refine c_joinP (n := 0) (fun sh G => sh = [(22, .bool ((decide (c2 = 0)) || c3))] ∧ G = []) Sel.all' .z (fun _ _ h => h) ?_ ?_
    · skip
      refine c_region ?_
      refine o_T (y_move rfl) rfl ?_
      refine o_T (y_eql rfl rfl) rfl ?_
      refine o_T (y_move rfl) rfl ?_
      refine o_split 20 rfl (fun h2 => ?_) (fun h2 => ?_)
      · skip
        refine o_pass rfl rfl rfl rfl rfl ?_
        refine o_T (y_pickT rfl rfl) rfl ?_
        refine o_nil1 22 rfl rfl ?_
        refine ⟨_, _, ⟨rfl, rfl⟩, ⟨by first | rfl | exact gtb rfl (by simp only [h2, Bool.true_and, Bool.false_and, Bool.true_or, Bool.false_or, Bool.and_true, Bool.and_false, Bool.or_true, Bool.or_false, Bool.not_true, Bool.not_false]), trivial⟩, ⟨rfl, rfl⟩, _, (s_take (s_take s_nil))⟩
      · skip
        refine o_take rfl rfl rfl ?_
        refine o_T (y_move rfl) rfl ?_
        refine o_T (y_pickF rfl rfl) rfl ?_
        refine o_nil1 22 rfl rfl ?_
        refine ⟨_, _, ⟨rfl, rfl⟩, ⟨by first | rfl | exact gtb rfl (by simp only [h2, Bool.true_and, Bool.false_and, Bool.true_or, Bool.false_or, Bool.and_true, Bool.and_false, Bool.or_true, Bool.or_false, Bool.not_true, Bool.not_false]), trivial⟩, ⟨rfl, rfl⟩, _, (s_take (s_take s_nil))⟩
    · rintro sh G ⟨rfl, rfl⟩
      refine c_cond rfl (fun h3 => ?_) (fun h3 => ?_)
      · have hm := cd_t h3 hm
        refine c_seq ?_
        refine c_region ?_
        refine o_L (y_assign rfl) rfl rfl ?_
        refine o_nil0 rfl ?_
        refine c_ret ?_
        obtain ⟨rfl, rfl⟩ := pr2 hm
        refine fun aX wX heX hsX => ret1 Tryz.results121 heX rfl (s_take (s_take s_nil)) ?_
        exact ⟨rfl, rfl⟩
      · have hm := cd_f h3 hm
        refine c_skip ?_
        refine c_seq ?_
        refine c_region ?_
        refine o_T (y_move rfl) rfl ?_
        refine o_T (y_move rfl) rfl ?_
        obtain ⟨z1, hx3, hm⟩ := bd1 hm
        refine o_callC en_206 rfl (s_take s_nil) (t206 hx3) rfl (fun u3 S3 hR3 => ?_)
        obtain ⟨rfl, rfl⟩ := hR3
        refine o_rest ?_
        refine o_nil0 rfl ?_
        refine c_seq ?_
        refine c_region ?_
        refine o_L (y_assign rfl) rfl rfl ?_
        refine o_nil0 rfl ?_
        refine c_ret ?_
        obtain ⟨rfl, rfl⟩ := pr2 hm
        refine fun aX wX heX hsX => ret1 Tryz.results121 heX rfl (s_take (s_take s_nil)) ?_
        exact ⟨rfl, rfl⟩
end Go.Proofs.Qxb6500350aGreat
