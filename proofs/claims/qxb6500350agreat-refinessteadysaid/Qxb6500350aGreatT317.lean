/- MADE BY PROGRAM (tools350/mir.py): mirror and walk. -/
import Derived.Test.Qxb6500350aGreatF2
set_option linter.unusedVariables false
set_option linter.unusedSimpArgs false
set_option maxRecDepth 20000
set_option maxHeartbeats 4000000
namespace Go.Proofs.Qxb6500350aGreat
open Go.Eng

/- diff.blank -/
def m317 (n : Nat) (n_ : Int) (k : Int) : Option (Tabl) :=
Option.bind (mkL (wi ((wi (n_ + 1)) * (wi (k + 1)))) (wi ((wi (n_ + 1)) * (wi (k + 1)))) (0 : Int)) fun l1 =>
nm ({ ({ Tabl.zero with w := (wi (k + 1)) }) with flat := l1 } : Tabl) fun z1 =>
some z1
theorem t317 {n : Nat} {C : List Chunk} {rz1 : Tabl} {n_ : Int} {k : Int}   (hm : m317 n n_ k = some rz1) : Trip Tryz.prog 317 #[.int .i64 n_, .int .i64 k] ([] ++ [C]) (fun u S' => ∃ (eb1 : Nat), ∃ (ev1 : Value), ∃ (eg1 : List Chunk), .pointer (some ⟨eb1, 0, none⟩) = u ∧ S' = [[(eb1, .cells (Tabl.enc (ev1) rz1).toArray 319 (0, 0))], eg1] ++ [C] ∧ Own rInt ev1 rz1.flat eg1) := by
  refine fn_entry (args := [.int .i64 n_, .int .i64 k]) Tryz.func317 rfl Tryz.ntmps317 rfl (fun w0 => ?_)
  refine c_seq ?_
  refine c_region ?_
  refine o_L (y_assign rfl) rfl rfl ?_
  refine o_nil0 rfl ?_
  refine c_seq ?_
  refine c_region ?_
  refine o_T (y_move rfl) rfl ?_
  refine o_T (y_add rfl rfl rfl) rfl ?_
  refine o_T (y_build st_319 rfl (fbU rfl Tabl.u_w rfl rfl fbU0)) rfl ?_
  refine o_box rfl rfl rfl rfl (fun b1 => ?_)
  have ho1 : Own rInt (.slice none 0 0) [] [] := Own.nil
  refine o_emp ?_
  refine o_L (y_assign rfl) rfl rfl ?_
  refine o_nil0 rfl ?_
  refine c_seq ?_
  refine c_region ?_
  refine o_T (y_move rfl) rfl ?_
  refine o_T (y_move rfl) rfl ?_
  refine o_T (y_add rfl rfl rfl) rfl ?_
  refine o_T (y_move rfl) rfl ?_
  refine o_T (y_add rfl rfl rfl) rfl ?_
  refine o_T (y_mul rfl rfl rfl) rfl ?_
  obtain ⟨l1, hx1, hm⟩ := bd hm
  refine o_mkR (R := rInt) (a := 0) sz_65 rfl rfl rfl rfl rfl hx1 rfl (fun v1 g1 ho2 => ?_)
  refine o_T (y_nilck rfl) rfl ?_
  refine o_T (y_fa fl_319_1 rfl) rfl ?_
  obtain ⟨z1, hn1, hm⟩ := nm_s hm
  have ho3 := ho2.to (l' := z1.flat) (by subst hn1; rfl)
  refine o_stN one_65 rfl rfl ho2.pl (Upd.z Tabl.u_flat) (rs (rs r0)) (show (Tabl.enc (v1) z1) = _ from by subst hn1; rfl) ?_
  refine o_nil0 rfl ?_
  refine c_seq ?_
  refine c_region ?_
  refine o_T (y_move rfl) rfl ?_
  refine o_L (y_assign rfl) rfl rfl ?_
  refine o_nil0 rfl ?_
  refine c_ret ?_
  obtain rfl := p1 hm
  refine fun aX wX heX hsX => ret1 Tryz.results317 heX rfl (s_get (ks (ks k0)) (s_take (s_skip (s_take s_nil)))) ?_
  exact ⟨b1, v1, _, rfl, rfl, ho3⟩
end Go.Proofs.Qxb6500350aGreat
