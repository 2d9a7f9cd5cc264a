/- MADE BY PROGRAM (tools350/mir.py): mirror and walk. -/
import Derived.Test.Qxb6500350aGreatF2
import Derived.Test.Qxb6500350aGreatT187
import Derived.Test.Qxb6500350aGreatT310
import Derived.Test.Qxb6500350aGreatT311
set_option linter.unusedVariables false
set_option linter.unusedSimpArgs false
set_option maxRecDepth 20000
set_option maxHeartbeats 4000000
namespace Go.Proofs.Qxb6500350aGreat
open Go.Eng

/- api.piece -/
def m282 (n : Nat) (b_ : (List Str)) (o : (List Str)) (t : (List Str)) : Option (Str × Int) :=
ob1 (m187 n o b_) fun c1 =>
cond c1 (
ob1 (m310 n t) fun c2 =>
some (c2, 0)) (
ob1 (m187 n t b_) fun c3 =>
cond c3 (
ob1 (m310 n o) fun c4 =>
some (c4, 0)) (
ob1 (m187 n o t) fun c5 =>
cond c5 (
ob1 (m310 n o) fun c6 =>
some (c6, 0)) (
ob1 (m311 n o) fun c7 =>
ob1 (m311 n t) fun c8 =>
Option.bind (sAdd [60, 60, 60, 60, 60, 60, 60, 10] c7) fun s1 =>
Option.bind (sAdd s1 [61, 61, 61, 61, 61, 61, 61, 10]) fun s2 =>
Option.bind (sAdd s2 c8) fun s3 =>
Option.bind (sAdd s3 [62, 62, 62, 62, 62, 62, 62, 10]) fun s4 =>
some (s4, 1))))
theorem t282 {n : Nat} {C : List Chunk} {rc1 : Str} {rc2 : Int} {v1 : Value} {b_ : (List Str)} {v2 : Value} {o : (List Str)} {v3 : Value} {t : (List Str)} (hr1 : Rd rStr C v1 b_) (hr2 : Rd rStr C v2 o) (hr3 : Rd rStr C v3 t)  (hm : m282 n b_ o t = some (rc1, rc2)) : Trip Tryz.prog 282 #[v1, v2, v3] ([] ++ [C]) (fun u S' => .tuple #[.string ⟨(rc1 : Str).toArray⟩, .int .i64 rc2] = u ∧ S' = [] ++ [C]) := by
  refine fn_entry (args := [v1, v2, v3]) Tryz.func282 rfl Tryz.ntmps282 rfl (fun w0 => ?_)
  refine c_seq ?_
  refine c_region ?_
  refine o_L (y_assign rfl) rfl rfl ?_
  refine o_L (y_assign rfl) rfl rfl ?_
  refine o_nil0 rfl ?_
  refine c_seq ?_
  refine c_seq ?_
  refine c_region ?_
  refine o_T (y_move rfl) rfl ?_
  refine o_T (y_move rfl) rfl ?_
  obtain ⟨c1, hx1, hm⟩ := bd1 hm
  refine o_callC en_187 rfl s_nil (t187 (hr2.mono (fun _ hz => (mg hz))) (hr1.mono (fun _ hz => (mg hz))) hx1) rfl (fun u1 S1 hR1 => ?_)
  obtain ⟨rfl, rfl⟩ := hR1
  refine o_rest ?_
  refine o_nil1 12 rfl rfl ?_
  refine c_cond rfl (fun h1 => ?_) (fun h1 => ?_)
  · have hm := cd_t h1 hm
    refine c_seq ?_
    refine c_region ?_
    refine o_T (y_move rfl) rfl ?_
    obtain ⟨c2, hx2, hm⟩ := bd1 hm
    refine o_callC en_310 rfl s_nil (t310 (hr3.mono (fun _ hz => (mg hz))) hx2) rfl (fun u2 S2 hR2 => ?_)
    obtain ⟨rfl, rfl⟩ := hR2
    refine o_rest ?_
    refine o_L (y_assign rfl) rfl rfl ?_
    refine o_L (y_assign rfl) rfl rfl ?_
    refine o_nil0 rfl ?_
    refine c_ret ?_
    obtain ⟨rfl, rfl⟩ := pr2 hm
    refine fun aX wX heX hsX => ret2 Tryz.results282 heX rfl rfl (s_take s_nil) ?_
    exact ⟨rfl, rfl⟩
  · have hm := cd_f h1 hm
    refine c_skip ?_
    refine c_seq ?_
    refine c_seq ?_
    refine c_region ?_
    refine o_T (y_move rfl) rfl ?_
    refine o_T (y_move rfl) rfl ?_
    obtain ⟨c3, hx3, hm⟩ := bd1 hm
    refine o_callC en_187 rfl s_nil (t187 (hr3.mono (fun _ hz => (mg hz))) (hr1.mono (fun _ hz => (mg hz))) hx3) rfl (fun u3 S3 hR3 => ?_)
    obtain ⟨rfl, rfl⟩ := hR3
    refine o_rest ?_
    refine o_nil1 17 rfl rfl ?_
    refine c_cond rfl (fun h2 => ?_) (fun h2 => ?_)
    · have hm := cd_t h2 hm
      refine c_seq ?_
      refine c_region ?_
      refine o_T (y_move rfl) rfl ?_
      obtain ⟨c4, hx4, hm⟩ := bd1 hm
      refine o_callC en_310 rfl s_nil (t310 (hr2.mono (fun _ hz => (mg hz))) hx4) rfl (fun u4 S4 hR4 => ?_)
      obtain ⟨rfl, rfl⟩ := hR4
      refine o_rest ?_
      refine o_L (y_assign rfl) rfl rfl ?_
      refine o_L (y_assign rfl) rfl rfl ?_
      refine o_nil0 rfl ?_
      refine c_ret ?_
      obtain ⟨rfl, rfl⟩ := pr2 hm
      refine fun aX wX heX hsX => ret2 Tryz.results282 heX rfl rfl (s_take s_nil) ?_
      exact ⟨rfl, rfl⟩
    · have hm := cd_f h2 hm
      refine c_skip ?_
      refine c_seq ?_
      refine c_seq ?_
      refine c_region ?_
      refine o_T (y_move rfl) rfl ?_
      refine o_T (y_move rfl) rfl ?_
      obtain ⟨c5, hx5, hm⟩ := bd1 hm
      refine o_callC en_187 rfl s_nil (t187 (hr2.mono (fun _ hz => (mg hz))) (hr3.mono (fun _ hz => (mg hz))) hx5) rfl (fun u5 S5 hR5 => ?_)
      obtain ⟨rfl, rfl⟩ := hR5
      refine o_rest ?_
      refine o_nil1 22 rfl rfl ?_
      refine c_cond rfl (fun h3 => ?_) (fun h3 => ?_)
      · have hm := cd_t h3 hm
        refine c_seq ?_
        refine c_region ?_
        refine o_T (y_move rfl) rfl ?_
        obtain ⟨c6, hx6, hm⟩ := bd1 hm
        refine o_callC en_310 rfl s_nil (t310 (hr2.mono (fun _ hz => (mg hz))) hx6) rfl (fun u6 S6 hR6 => ?_)
        obtain ⟨rfl, rfl⟩ := hR6
        refine o_rest ?_
        refine o_L (y_assign rfl) rfl rfl ?_
        refine o_L (y_assign rfl) rfl rfl ?_
        refine o_nil0 rfl ?_
        refine c_ret ?_
        obtain ⟨rfl, rfl⟩ := pr2 hm
        refine fun aX wX heX hsX => ret2 Tryz.results282 heX rfl rfl (s_take s_nil) ?_
        exact ⟨rfl, rfl⟩
      · have hm := cd_f h3 hm
        refine c_skip ?_
        refine c_seq ?_
        refine c_region ?_
        refine o_T (y_move rfl) rfl ?_
        obtain ⟨c7, hx7, hm⟩ := bd1 hm
        refine o_callC en_311 rfl s_nil (t311 (hr2.mono (fun _ hz => (mg hz))) hx7) rfl (fun u7 S7 hR7 => ?_)
        obtain ⟨rfl, rfl⟩ := hR7
        refine o_rest ?_
        refine o_L (y_assign rfl) rfl rfl ?_
        refine o_nil0 rfl ?_
        refine c_seq ?_
        refine c_region ?_
        refine o_T (y_move rfl) rfl ?_
        obtain ⟨c8, hx8, hm⟩ := bd1 hm
        refine o_callC en_311 rfl s_nil (t311 (hr3.mono (fun _ hz => (mg hz))) hx8) rfl (fun u8 S8 hR8 => ?_)
        obtain ⟨rfl, rfl⟩ := hR8
        refine o_rest ?_
        refine o_L (y_assign rfl) rfl rfl ?_
        refine o_nil0 rfl ?_
        refine c_seq ?_
        refine c_region ?_
        refine o_T (y_move rfl) rfl ?_
        obtain ⟨s1, hx9, hm⟩ := bd hm
        refine o_T (y_sadd rfl rfl hx9) rfl ?_
        obtain ⟨s2, hx10, hm⟩ := bd hm
        refine o_T (y_sadd rfl rfl hx10) rfl ?_
        refine o_T (y_move rfl) rfl ?_
        obtain ⟨s3, hx11, hm⟩ := bd hm
        refine o_T (y_sadd rfl rfl hx11) rfl ?_
        obtain ⟨s4, hx12, hm⟩ := bd hm
        refine o_T (y_sadd rfl rfl hx12) rfl ?_
        refine o_L (y_assign rfl) rfl rfl ?_
        refine o_L (y_assign rfl) rfl rfl ?_
        refine o_nil0 rfl ?_
        refine c_ret ?_
        obtain ⟨rfl, rfl⟩ := pr2 hm
        refine fun aX wX heX hsX => ret2 Tryz.results282 heX rfl rfl (s_take s_nil) ?_
        exact ⟨rfl, rfl⟩
end Go.Proofs.Qxb6500350aGreat
