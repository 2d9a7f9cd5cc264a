/- MADE BY PROGRAM (tools350/mir.py): mirror and walk. -/
import Derived.Test.Qxb6500350aGreatF2
import Derived.Test.Qxb6500350aGreatT267
set_option linter.unusedVariables false
set_option linter.unusedSimpArgs false
set_option maxRecDepth 20000
set_option maxHeartbeats 4000000
namespace Go.Proofs.Qxb6500350aGreat
open Go.Eng

/- index.holds -/
def m250 (n : Nat) (r : Row_) (data : Str) : Option (Bool) :=
cond (decide (¬ (r.size = (data.length : Int)))) (
some false) (
ob1 (m267 n data) fun c1 =>
cond (decide (¬ (c1 = r.hash))) (
some false) (
some (decide (r.f.data = data))))
theorem t250 {n : Nat} {C : List Chunk} {rc1 : Bool} {r : Row_} {data : Str}   (hm : m250 n r data = some rc1) : Trip Tryz.prog 250 #[.agg (Row_.enc r).toArray, .string ⟨(data : Str).toArray⟩] ([] ++ [C]) (fun u S' => .bool rc1 = u ∧ S' = [] ++ [C]) := by
  refine fn_entry (args := [.agg (Row_.enc r).toArray, .string ⟨(data : Str).toArray⟩]) Tryz.func250 rfl Tryz.ntmps250 rfl (fun w0 => ?_)
  refine c_seq ?_
  refine c_region ?_
  refine o_box rfl rfl rfl rfl (fun b1 => ?_)
  refine o_L (y_assign rfl) rfl rfl ?_
  refine o_nil0 rfl ?_
  refine c_seq ?_
  refine c_seq ?_
  refine c_region ?_
  refine o_T (y_fa fl_224_1 rfl) rfl ?_
  refine o_ld one_3 rfl m0 (At.got (At.refl.comp Row_.a_size)) rfl ?_
  refine o_T (y_move rfl) rfl ?_
  refine o_T (y_slen Tryz.underlying9 rfl) rfl ?_
  refine o_T (y_neq rfl rfl) rfl ?_
  refine o_nil1 10 rfl rfl ?_
  refine c_cond rfl (fun h1 => ?_) (fun h1 => ?_)
  · have hm := cd_t h1 hm
    refine c_seq ?_
    refine c_region ?_
    refine o_L (y_assign rfl) rfl rfl ?_
    refine o_nil0 rfl ?_
    refine c_ret ?_
    obtain rfl := p1 hm
    refine fun aX wX heX hsX => ret1 Tryz.results250 heX rfl (s_skip (s_take s_nil)) ?_
    exact ⟨rfl, rfl⟩
  · have hm := cd_f h1 hm
    refine c_skip ?_
    refine c_seq ?_
    refine c_region ?_
    refine o_T (y_move rfl) rfl ?_
    obtain ⟨c1, hx1, hm⟩ := bd1 hm
    refine o_callC en_267 rfl s_nil (t267 hx1) rfl (fun u1 S1 hR1 => ?_)
    obtain ⟨rfl, rfl⟩ := hR1
    refine o_rest ?_
    refine o_L (y_assign rfl) rfl rfl ?_
    refine o_nil0 rfl ?_
    refine c_seq ?_
    refine c_seq ?_
    refine c_region ?_
    refine o_T (y_move rfl) rfl ?_
    refine o_T (y_fa fl_224_2 rfl) rfl ?_
    refine o_ld one_3 rfl m0 (At.got (At.refl.comp Row_.a_hash)) rfl ?_
    refine o_T (y_neq rfl rfl) rfl ?_
    refine o_nil1 16 rfl rfl ?_
    refine c_cond rfl (fun h2 => ?_) (fun h2 => ?_)
    · have hm := cd_t h2 hm
      refine c_seq ?_
      refine c_region ?_
      refine o_L (y_assign rfl) rfl rfl ?_
      refine o_nil0 rfl ?_
      refine c_ret ?_
      obtain rfl := p1 hm
      refine fun aX wX heX hsX => ret1 Tryz.results250 heX rfl (s_skip (s_take s_nil)) ?_
      exact ⟨rfl, rfl⟩
    · have hm := cd_f h2 hm
      refine c_skip ?_
      refine c_seq ?_
      refine c_region ?_
      refine o_T (y_fa fl_224_0 rfl) rfl ?_
      refine o_T (y_fa fl_71_1 rfl) rfl ?_
      refine o_ld one_9 rfl m0 (At.got ((At.refl.comp Row_.a_f).comp File.a_data)) rfl ?_
      refine o_T (y_move rfl) rfl ?_
      refine o_T (y_seq rfl rfl) rfl ?_
      refine o_L (y_assign rfl) rfl rfl ?_
      refine o_nil0 rfl ?_
      refine c_ret ?_
      obtain rfl := p1 hm
      refine fun aX wX heX hsX => ret1 Tryz.results250 heX rfl (s_skip (s_take s_nil)) ?_
      exact ⟨rfl, rfl⟩
end Go.Proofs.Qxb6500350aGreat
