/- MADE BY PROGRAM (tools350/mir.py): mirror and walk. -/
import Derived.Test.Qxb6500350aGreatF2
set_option linter.unusedVariables false
set_option linter.unusedSimpArgs false
set_option maxRecDepth 20000
set_option maxHeartbeats 4000000
namespace Go.Proofs.Qxb6500350aGreat
open Go.Eng

/- diff.add -/
def m281 (n : Nat) (out : (List UInt8)) (s_ : Str) : Option ((List UInt8)) :=
Option.bind (apds [] s_) fun l1 =>
Option.bind (apds out l1) fun l2 =>
some l2
theorem t281 {n : Nat} {C : List Chunk} {rl1 : List UInt8} {v1 : Value} {out : (List UInt8)} {g1 : List Chunk} {s_ : Str} (ho1 : Own rByte v1 out g1)  (hm : m281 n out s_ = some rl1) : Trip Tryz.prog 281 #[v1, .string ⟨(s_ : Str).toArray⟩] ([g1] ++ [C]) (fun u S' => ∃ (ev1 : Value), ∃ (eg1 : List Chunk), ev1 = u ∧ S' = [eg1] ++ [C] ∧ Own rByte ev1 rl1 eg1) := by
  refine fn_entry (args := [v1, .string ⟨(s_ : Str).toArray⟩]) Tryz.func281 rfl Tryz.ntmps281 rfl (fun w0 => ?_)
  refine c_seq ?_
  refine c_region ?_
  have ho2 : Own rByte (.slice none 0 0) [] [] := Own.nil
  refine o_emp ?_
  refine o_L (y_assign rfl) rfl rfl ?_
  refine o_nil0 rfl ?_
  refine c_seq ?_
  refine c_region ?_
  refine o_T (y_move rfl) rfl ?_
  refine o_T (y_move rfl) rfl ?_
  obtain ⟨l1, hx1, hm⟩ := bd hm
  refine o_s2b Tryz.underlying9 Tryz.underlying81 Tryz.underlying5 rfl hx1 rfl (fun b1 cp1 cs1 z1 hl1 hl2 hl3 => ?_)
  have hr1 : Rd rByte [(b1, Obj.cells cs1 5 z1)] (.slice (some ⟨b1, 0, none⟩) l1.length cp1) l1 := .inr ⟨_, _, _, _, _, _, rfl, List.mem_cons_self .., hl1, hl2, Els.mono (fun _ hz => by cases hz) hl3⟩
  obtain ⟨l2, hx2, hm⟩ := bd hm
  refine o_appRs (R := rByte) sz_81 rfl rfl rfl rfl ho1 hl3 rfl hl2 hx2 (s_get (ks (ks k0)) (s_take s_nil)) rfl (fun v2 g2 ho3 => ?_)
  refine o_L (y_assign rfl) rfl rfl ?_
  refine o_nil0 rfl ?_
  refine c_ret ?_
  obtain rfl := p1 hm
  refine fun aX wX heX hsX => ret1 Tryz.results281 heX rfl (s_take (s_skip (s_take s_nil))) ?_
  exact ⟨v2, _, rfl, rfl, ho3⟩
end Go.Proofs.Qxb6500350aGreat
