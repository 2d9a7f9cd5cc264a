/- MADE BY PROGRAM (tools350/mir.py): mirror and walk. -/
import Derived.Test.Qxb6500350aGreatF2
import Derived.Test.Qxb6500350aGreatT45
set_option linter.unusedVariables false
set_option linter.unusedSimpArgs false
set_option maxRecDepth 20000
set_option maxHeartbeats 4000000
namespace Go.Proofs.Qxb6500350aGreat
open Go.Eng

/- towerlaw.Mark -/
def m15 (n : Nat) (d : Dev) (b_ : Below) : Option (Dev) :=
ob1 (m45 n d) fun z1 =>
some z1
theorem t15 {n : Nat} {C : List Chunk} {rz1 : Dev} {b_ : Below} {b1 : Nat} {d : Dev} {v1 : Value} {g1 : List Chunk} {v2 : Value} {g2 : List Chunk} {v3 : Value} {g3 : List Chunk} {v4 : Value} {g4 : List Chunk} {q1 : Option Addr} {q2 : Option Addr} {q3 : Option Addr} {q4 : Option Addr} {q5 : Option Addr} {q6 : Option Addr} (ho1 : Own rByte v1 d.blk g1) (ho2 : Own rByte v2 d.base g2) (ho3 : Own rInt v3 d.at_ g3) (ho4 : Own rByte v4 d.data g4)  (hm : m15 n d b_ = some rz1) : Trip Tryz.prog 15 #[.agg (Below.enc (.pointer (some ⟨b1, 0, none⟩)) ((.pointer q1)) ((.pointer q2)) ((.pointer q3)) ((.pointer q4)) ((.pointer q5)) ((.pointer q6)) b_).toArray] ([[(b1, .cells (Dev.enc (v1) (v2) (v3) (v4) d).toArray 85 (0, 0))], g1, g2, g3, g4] ++ [C]) (fun u S' => ∃ (ev1 : Value), ∃ (eg1 : List Chunk), ∃ (ev2 : Value), ∃ (eg2 : List Chunk), ∃ (ev3 : Value), ∃ (eg3 : List Chunk), ∃ (ev4 : Value), ∃ (eg4 : List Chunk), .tuple #[] = u ∧ S' = [[(b1, .cells (Dev.enc (ev1) (ev2) (ev3) (ev4) rz1).toArray 85 (0, 0))], eg1, eg2, eg3, eg4] ++ [C] ∧ Own rByte ev1 rz1.blk eg1 ∧ Own rByte ev2 rz1.base eg2 ∧ Own rInt ev3 rz1.at_ eg3 ∧ Own rByte ev4 rz1.data eg4) := by
  refine fn_entry (args := [.agg (Below.enc (.pointer (some ⟨b1, 0, none⟩)) ((.pointer q1)) ((.pointer q2)) ((.pointer q3)) ((.pointer q4)) ((.pointer q5)) ((.pointer q6)) b_).toArray]) Tryz.func15 rfl Tryz.ntmps15 rfl (fun w0 => ?_)
  refine c_seq ?_
  refine c_region ?_
  refine o_box rfl rfl rfl rfl (fun b2 => ?_)
  refine o_nil0 rfl ?_
  refine c_region ?_
  refine o_T (y_fa fl_37_0 rfl) rfl ?_
  refine o_ld one_27 rfl m0 (At.got (At.refl.comp Below.a_d)) rfl ?_
  obtain ⟨z1, hx1, hm⟩ := bd1 hm
  refine o_callC en_45 rfl (s_skip (s_take (s_take (s_take (s_take (s_take s_nil)))))) (t45 ho1 ho2 ho3 ho4 hx1) rfl (fun u1 S1 hR1 => ?_)
  obtain ⟨v5, g5, v6, g6, v7, g7, v8, g8, rfl, rfl, ho5, ho6, ho7, ho8⟩ := hR1
  refine o_rest ?_
  refine o_nil0 rfl ?_
  obtain rfl := p1 hm
  refine fun aX wX heX hsX => ret0 Tryz.results15 (s_take (s_take (s_take (s_take (s_take (s_skip (s_take s_nil))))))) ?_
  exact ⟨v5, _, v6, _, v7, _, v8, _, rfl, rfl, ho5, ho6, ho7, ho8⟩
end Go.Proofs.Qxb6500350aGreat
