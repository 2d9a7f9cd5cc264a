/- MADE BY PROGRAM (tools350/mir.py): mirror and walk. -/
import Derived.Test.Qxb6500350aGreatF2
set_option linter.unusedVariables false
set_option linter.unusedSimpArgs false
set_option maxRecDepth 20000
set_option maxHeartbeats 4000000
namespace Go.Proofs.Qxb6500350aGreat
open Go.Eng

/- devm.New -/
def m23 (n : Nat) : Option (Dev) :=
Option.bind (mkL 9280 9280 (0 : UInt8)) fun l1 =>
nm ({ Dev.zero with blk := l1 } : Dev) fun z1 =>
Option.bind (mkL 9280 9280 (0 : UInt8)) fun l2 =>
nm ({ z1 with base := l2 } : Dev) fun z2 =>
some z2
theorem t23 {n : Nat} {C : List Chunk} {rz1 : Dev}    (hm : m23 n = some rz1) : Trip Tryz.prog 23 #[] ([] ++ [C]) (fun u S' => ∃ (eb1 : Nat), ∃ (ev1 : Value), ∃ (eg1 : List Chunk), ∃ (ev2 : Value), ∃ (eg2 : List Chunk), ∃ (ev3 : Value), ∃ (eg3 : List Chunk), ∃ (ev4 : Value), ∃ (eg4 : List Chunk), .pointer (some ⟨eb1, 0, none⟩) = u ∧ S' = [[(eb1, .cells (Dev.enc (ev1) (ev2) (ev3) (ev4) rz1).toArray 85 (0, 0))], eg1, eg2, eg3, eg4] ++ [C] ∧ Own rByte ev1 rz1.blk eg1 ∧ Own rByte ev2 rz1.base eg2 ∧ Own rInt ev3 rz1.at_ eg3 ∧ Own rByte ev4 rz1.data eg4) := by
  refine fn_entry (args := []) Tryz.func23 rfl Tryz.ntmps23 rfl (fun w0 => ?_)
  refine c_seq ?_
  refine c_region ?_
  refine o_L (y_assign rfl) rfl rfl ?_
  refine o_nil0 rfl ?_
  refine c_seq ?_
  refine c_region ?_
  refine o_T (y_build st_85 rfl fbU0) rfl ?_
  refine o_box rfl rfl rfl rfl (fun b1 => ?_)
  have ho1 : Own rByte (.slice none 0 0) [] [] := Own.nil
  refine o_emp ?_
  have ho2 : Own rByte (.slice none 0 0) [] [] := Own.nil
  refine o_emp ?_
  have ho3 : Own rInt (.slice none 0 0) [] [] := Own.nil
  refine o_emp ?_
  have ho4 : Own rByte (.slice none 0 0) [] [] := Own.nil
  refine o_emp ?_
  refine o_L (y_assign rfl) rfl rfl ?_
  refine o_nil0 rfl ?_
  refine c_seq ?_
  refine c_region ?_
  refine o_T (y_move rfl) rfl ?_
  obtain ⟨l1, hx1, hm⟩ := bd hm
  refine o_mkR (R := rByte) (a := 0) sz_81 rfl rfl rfl rfl rfl hx1 rfl (fun v1 g1 ho5 => ?_)
  refine o_T (y_nilck rfl) rfl ?_
  refine o_T (y_fa fl_85_0 rfl) rfl ?_
  obtain ⟨z1, hn1, hm⟩ := nm_s hm
  have ho6 := ho5.to (l' := z1.blk) (by subst hn1; rfl)
  have ho7 := ho2.to (l' := z1.base) (by subst hn1; rfl)
  have ho8 := ho3.to (l' := z1.at_) (by subst hn1; rfl)
  have ho9 := ho4.to (l' := z1.data) (by subst hn1; rfl)
  refine o_stN one_81 rfl rfl ho5.pl (Upd.z Dev.u_blk) (rs (rs (rs (rs (rs r0))))) (show (Dev.enc (v1) ((.slice none 0 0)) ((.slice none 0 0)) ((.slice none 0 0)) z1) = _ from by subst hn1; rfl) ?_
  refine o_nil0 rfl ?_
  refine c_seq ?_
  refine c_region ?_
  refine o_T (y_move rfl) rfl ?_
  obtain ⟨l2, hx2, hm⟩ := bd hm
  refine o_mkR (R := rByte) (a := 0) sz_81 rfl rfl rfl rfl rfl hx2 rfl (fun v2 g2 ho10 => ?_)
  refine o_T (y_nilck rfl) rfl ?_
  refine o_T (y_fa fl_85_1 rfl) rfl ?_
  obtain ⟨z2, hn2, hm⟩ := nm_s hm
  have ho11 := ho6.to (l' := z2.blk) (by subst hn2; rfl)
  have ho12 := ho10.to (l' := z2.base) (by subst hn2; rfl)
  have ho13 := ho8.to (l' := z2.at_) (by subst hn2; rfl)
  have ho14 := ho9.to (l' := z2.data) (by subst hn2; rfl)
  refine o_stN one_81 rfl rfl ho10.pl (Upd.z Dev.u_base) (rs (rs (rs (rs (rs (rs r0)))))) (show (Dev.enc (v1) (v2) ((.slice none 0 0)) ((.slice none 0 0)) z2) = _ from by subst hn2; rfl) ?_
  refine o_nil0 rfl ?_
  refine c_seq ?_
  refine c_region ?_
  refine o_T (y_move rfl) rfl ?_
  refine o_L (y_assign rfl) rfl rfl ?_
  refine o_nil0 rfl ?_
  refine c_ret ?_
  obtain rfl := p1 hm
  refine fun aX wX heX hsX => ret1 Tryz.results23 heX rfl (s_get (ks (ks (ks (ks (ks (ks k0)))))) (s_get (ks k0) (s_take (s_get (ks k0) (s_take (s_skip (s_skip (s_take s_nil)))))))) ?_
  exact ⟨b1, v1, _, v2, _, (.slice none 0 0), _, (.slice none 0 0), _, rfl, rfl, ho11, ho12, ho13, ho14⟩
end Go.Proofs.Qxb6500350aGreat
