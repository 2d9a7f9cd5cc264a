/- MADE BY PROGRAM (tools350/mir.py): mirror and walk. -/
import Derived.Test.Qxb6500350aGreatF2
import Derived.Test.Qxb6500350aGreatT113
import Derived.Test.Qxb6500350aGreatT204
import Derived.Test.Qxb6500350aGreatT205
set_option linter.unusedVariables false
set_option linter.unusedSimpArgs false
set_option maxRecDepth 20000
set_option maxHeartbeats 4000000
namespace Go.Proofs.Qxb6500350aGreat
open Go.Eng

/- (*index.Index).Set -/
def m120 (n : Nat) (x : Index) (f : File) : Option (Int × Index) :=
ob1 (m113 n f.path) fun c1 =>
cond (!c1) (
some (9, x)) (
cond ((decide (f.mode < 0)) || (decide ((3 : Int) < f.mode))) (
some (10, x)) (
cond (decide ((180 : Int) < (f.data.length : Int))) (
some (4, x)) (
ob2 (m204 n x f.path) fun c2 c3 =>
cond c3 (
some (12, x)) (
cond ((decide (c2 = 0)) && (decide ((8 : Int) ≤ x.files))) (
some (8, x)) (
ob1 (m205 n x f) fun z1 =>
some (0, z1))))))
theorem t120 {n : Nat} {C : List Chunk} {rc1 : Int} {rz1 : Index} {b1 : Nat} {x : Index} {f : File}   (hm : m120 n x f = some (rc1, rz1)) : Trip Tryz.prog 120 #[.pointer (some ⟨b1, 0, none⟩), .agg (File.enc f).toArray] ([[(b1, .cells (Index.enc x).toArray 184 (0, 0))]] ++ [C]) (fun u S' => .int .i64 rc1 = u ∧ S' = [[(b1, .cells (Index.enc rz1).toArray 184 (0, 0))]] ++ [C]) := by
  refine fn_entry (args := [.pointer (some ⟨b1, 0, none⟩), .agg (File.enc f).toArray]) Tryz.func120 rfl Tryz.ntmps120 rfl (fun w0 => ?_)
  refine c_seq ?_
  refine c_region ?_
  refine o_box rfl rfl rfl rfl (fun b2 => ?_)
  refine o_L (y_assign rfl) rfl rfl ?_
  refine o_nil0 rfl ?_
  refine c_seq ?_
  refine c_region ?_
  refine o_T (y_fa fl_71_0 rfl) rfl ?_
  refine o_ld one_9 rfl m0 (At.got (At.refl.comp File.a_path)) rfl ?_
  obtain ⟨c1, hx1, hm⟩ := bd1 hm
  refine o_callC en_113 rfl s_nil (t113 hx1) rfl (fun u1 S1 hR1 => ?_)
  obtain ⟨rfl, rfl⟩ := hR1
  refine o_rest ?_
  refine o_L (y_assign rfl) rfl rfl ?_
  refine o_nil0 rfl ?_
  refine c_seq ?_
  refine c_seq ?_
  refine c_region ?_
  refine o_T (y_move rfl) rfl ?_
  refine o_T (y_not rfl) rfl ?_
  refine o_nil1 12 rfl rfl ?_
  refine c_cond rfl (fun h1 => ?_) (fun h1 => ?_)
  · have hm := cd_t h1 hm
    refine c_seq ?_
    refine c_region ?_
    refine o_L (y_assign rfl) rfl rfl ?_
    refine o_nil0 rfl ?_
    refine c_ret ?_
    obtain ⟨rfl, rfl⟩ := pr2 hm
    refine fun aX wX heX hsX => ret1 Tryz.results120 heX rfl (s_skip (s_take (s_take s_nil))) ?_
    exact ⟨rfl, rfl⟩
  · have hm := cd_f h1 hm
    refine c_skip ?_
    refine c_seq ?_
    refine c_seq ?_
    refine c_joinP (n := 0) (fun sh G => sh = [(20, .bool ((decide (f.mode < 0)) || (decide ((3 : Int) < f.mode))))] ∧ G = []) Sel.all' .z (fun _ _ h => h) ?_ ?_
    · skip
      refine c_region ?_
      refine o_T (y_fa fl_71_2 rfl) rfl ?_
      refine o_ld one_3 rfl m0 (At.got (At.refl.comp File.a_mode)) rfl ?_
      refine o_T (y_lss rfl rfl) rfl ?_
      refine o_T (y_move rfl) rfl ?_
      refine o_split 16 rfl (fun h2 => ?_) (fun h2 => ?_)
      · skip
        refine o_pass rfl rfl rfl rfl rfl ?_
        refine o_pass rfl rfl rfl rfl rfl ?_
        refine o_pass rfl rfl rfl rfl rfl ?_
        refine o_T (y_pickT rfl rfl) rfl ?_
        refine o_nil1 20 rfl rfl ?_
        refine ⟨_, _, ⟨rfl, rfl⟩, ⟨by first | rfl | exact gtb rfl (by simp only [h2, Bool.true_and, Bool.false_and, Bool.true_or, Bool.false_or, Bool.and_true, Bool.and_false, Bool.or_true, Bool.or_false, Bool.not_true, Bool.not_false]), trivial⟩, ⟨rfl, rfl⟩, _, (s_take (s_take (s_take s_nil)))⟩
      · skip
        refine o_take rfl rfl rfl ?_
        refine o_T (y_fa fl_71_2 rfl) rfl ?_
        refine o_take rfl rfl rfl ?_
        refine o_ld one_3 rfl m0 (At.got (At.refl.comp File.a_mode)) rfl ?_
        refine o_take rfl rfl rfl ?_
        refine o_T (y_gtr rfl rfl) rfl ?_
        refine o_T (y_pickF rfl rfl) rfl ?_
        refine o_nil1 20 rfl rfl ?_
        refine ⟨_, _, ⟨rfl, rfl⟩, ⟨by first | rfl | exact gtb rfl (by simp only [h2, Bool.true_and, Bool.false_and, Bool.true_or, Bool.false_or, Bool.and_true, Bool.and_false, Bool.or_true, Bool.or_false, Bool.not_true, Bool.not_false]), trivial⟩, ⟨rfl, rfl⟩, _, (s_take (s_take (s_take s_nil)))⟩
    · rintro sh G ⟨rfl, rfl⟩
      refine c_cond rfl (fun h3 => ?_) (fun h3 => ?_)
      · have hm := cd_t h3 hm
        refine c_seq ?_
        refine c_region ?_
        refine o_L (y_assign rfl) rfl rfl ?_
        refine o_nil0 rfl ?_
        refine c_ret ?_
        obtain ⟨rfl, rfl⟩ := pr2 hm
        refine fun aX wX heX hsX => ret1 Tryz.results120 heX rfl (s_skip (s_take (s_take s_nil))) ?_
        exact ⟨rfl, rfl⟩
      · have hm := cd_f h3 hm
        refine c_skip ?_
        refine c_seq ?_
        refine c_seq ?_
        refine c_region ?_
        refine o_T (y_fa fl_71_1 rfl) rfl ?_
        refine o_ld one_9 rfl m0 (At.got (At.refl.comp File.a_data)) rfl ?_
        refine o_T (y_slen Tryz.underlying9 rfl) rfl ?_
        refine o_T (y_gtr rfl rfl) rfl ?_
        refine o_nil1 24 rfl rfl ?_
        refine c_cond rfl (fun h4 => ?_) (fun h4 => ?_)
        · have hm := cd_t h4 hm
          refine c_seq ?_
          refine c_region ?_
          refine o_L (y_assign rfl) rfl rfl ?_
          refine o_nil0 rfl ?_
          refine c_ret ?_
          obtain ⟨rfl, rfl⟩ := pr2 hm
          refine fun aX wX heX hsX => ret1 Tryz.results120 heX rfl (s_skip (s_take (s_take s_nil))) ?_
          exact ⟨rfl, rfl⟩
        · have hm := cd_f h4 hm
          refine c_skip ?_
          refine c_seq ?_
          refine c_region ?_
          refine o_T (y_move rfl) rfl ?_
          refine o_T (y_fa fl_71_0 rfl) rfl ?_
          refine o_ld one_9 rfl m0 (At.got (At.refl.comp File.a_path)) rfl ?_
          obtain ⟨c2, c3, hx2, hm⟩ := bd2 hm
          refine o_callC en_204 rfl (s_skip (s_take s_nil)) (t204 hx2) rfl (fun u2 S2 hR2 => ?_)
          obtain ⟨rfl, rfl⟩ := hR2
          refine o_rest ?_
          refine o_T (y_move rfl) rfl ?_
          refine o_T (y_extract rfl rfl) rfl ?_
          refine o_T (y_extract rfl rfl) rfl ?_
          refine o_L (y_assign rfl) rfl rfl ?_
          refine o_L (y_assign rfl) rfl rfl ?_
          refine o_nil0 rfl ?_
          refine c_seq ?_
          refine c_seq ?_
          refine c_region ?_
          refine o_T (y_move rfl) rfl ?_
          refine o_nil1 32 rfl rfl ?_
          refine c_cond rfl (fun h5 => ?_) (fun h5 => ?_)
          · have hm := cd_t h5 hm
            refine c_seq ?_
            refine c_region ?_
            refine o_L (y_assign rfl) rfl rfl ?_
            refine o_nil0 rfl ?_
            refine c_ret ?_
            obtain ⟨rfl, rfl⟩ := pr2 hm
            refine fun aX wX heX hsX => ret1 Tryz.results120 heX rfl (s_take (s_skip (s_take s_nil))) ?_
            exact ⟨rfl, rfl⟩
          · have hm := cd_f h5 hm
            refine c_skip ?_
            refine c_seq ?_
            refine c_seq ?_
            refine c_joinP (n := 0) (fun sh G => sh = [(41, .bool ((decide (c2 = 0)) && (decide ((8 : Int) ≤ x.files))))] ∧ G = []) Sel.all' .z (fun _ _ h => h) ?_ ?_
            · skip
              refine c_region ?_
              refine o_T (y_move rfl) rfl ?_
              refine o_T (y_eql rfl rfl) rfl ?_
              refine o_T (y_move rfl) rfl ?_
              refine o_split 35 rfl (fun h6 => ?_) (fun h6 => ?_)
              · skip
                refine o_take rfl rfl rfl ?_
                refine o_T (y_move rfl) rfl ?_
                refine o_take rfl rfl rfl ?_
                refine o_T (y_nilck rfl) rfl ?_
                refine o_take rfl rfl rfl ?_
                refine o_T (y_fa fl_184_2 rfl) rfl ?_
                refine o_take rfl rfl rfl ?_
                refine o_ld one_3 rfl m0 (At.got (At.refl.comp Index.a_files)) rfl ?_
                refine o_take rfl rfl rfl ?_
                refine o_T (y_geq rfl rfl) rfl ?_
                refine o_T (y_pickT rfl rfl) rfl ?_
                refine o_nil1 41 rfl rfl ?_
                refine ⟨_, _, ⟨rfl, rfl⟩, ⟨by first | rfl | exact gtb rfl (by simp only [h6, Bool.true_and, Bool.false_and, Bool.true_or, Bool.false_or, Bool.and_true, Bool.and_false, Bool.or_true, Bool.or_false, Bool.not_true, Bool.not_false]), trivial⟩, ⟨rfl, rfl⟩, _, (s_take (s_take (s_take s_nil)))⟩
              · skip
                refine o_pass rfl rfl rfl rfl rfl ?_
                refine o_pass rfl rfl rfl rfl rfl ?_
                refine o_pass rfl rfl rfl rfl rfl ?_
                refine o_pass rfl rfl rfl rfl rfl ?_
                refine o_pass rfl rfl rfl rfl rfl ?_
                refine o_T (y_pickF rfl rfl) rfl ?_
                refine o_nil1 41 rfl rfl ?_
                refine ⟨_, _, ⟨rfl, rfl⟩, ⟨by first | rfl | exact gtb rfl (by simp only [h6, Bool.true_and, Bool.false_and, Bool.true_or, Bool.false_or, Bool.and_true, Bool.and_false, Bool.or_true, Bool.or_false, Bool.not_true, Bool.not_false]), trivial⟩, ⟨rfl, rfl⟩, _, (s_take (s_take (s_take s_nil)))⟩
            · rintro sh G ⟨rfl, rfl⟩
              refine c_cond rfl (fun h7 => ?_) (fun h7 => ?_)
              · have hm := cd_t h7 hm
                refine c_seq ?_
                refine c_region ?_
                refine o_L (y_assign rfl) rfl rfl ?_
                refine o_nil0 rfl ?_
                refine c_ret ?_
                obtain ⟨rfl, rfl⟩ := pr2 hm
                refine fun aX wX heX hsX => ret1 Tryz.results120 heX rfl (s_take (s_skip (s_take s_nil))) ?_
                exact ⟨rfl, rfl⟩
              · have hm := cd_f h7 hm
                refine c_skip ?_
                refine c_seq ?_
                refine c_region ?_
                refine o_T (y_move rfl) rfl ?_
                refine o_lda ag_71 rfl (ms m0) (At.exs At.refl (File.len _)) (At.fits At.refl (File.len _)) rfl ?_
                obtain ⟨z1, hx3, hm⟩ := bd1 hm
                refine o_callC en_205 rfl (s_take s_nil) (t205 hx3) rfl (fun u3 S3 hR3 => ?_)
                obtain ⟨rfl, rfl⟩ := hR3
                refine o_rest ?_
                refine o_nil0 rfl ?_
                refine c_seq ?_
                refine c_region ?_
                refine o_L (y_assign rfl) rfl rfl ?_
                refine o_nil0 rfl ?_
                refine c_ret ?_
                obtain ⟨rfl, rfl⟩ := pr2 hm
                refine fun aX wX heX hsX => ret1 Tryz.results120 heX rfl (s_take (s_skip (s_take s_nil))) ?_
                exact ⟨rfl, rfl⟩
end Go.Proofs.Qxb6500350aGreat
