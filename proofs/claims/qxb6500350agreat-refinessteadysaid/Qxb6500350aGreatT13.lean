/- MADE BY PROGRAM (tools350/mir.py): mirror and walk. -/
import Derived.Test.Qxb6500350aGreatF2
import Derived.Test.Qxb6500350aGreatT28
set_option linter.unusedVariables false
set_option linter.unusedSimpArgs false
set_option maxRecDepth 20000
set_option maxHeartbeats 4000000
namespace Go.Proofs.Qxb6500350aGreat
open Go.Eng

/- towerlaw.Steps -/
def m13 (n : Nat) (d : Dev) (b_ : Below) : Option (Int) :=
ob1 (m28 n d) fun c1 =>
some c1
theorem t13 {n : Nat} {C : List Chunk} {rc1 : Int} {b_ : Below} {b1 : Nat} {d : Dev} {v1 : Value} {g1 : List Chunk} {v2 : Value} {g2 : List Chunk} {v3 : Value} {g3 : List Chunk} {v4 : Value} {g4 : List Chunk} {q1 : Option Addr} {q2 : Option Addr} {q3 : Option Addr} {q4 : Option Addr} {q5 : Option Addr} {q6 : Option Addr} (ho1 : Own rByte v1 d.blk g1) (ho2 : Own rByte v2 d.base g2) (ho3 : Own rInt v3 d.at_ g3) (ho4 : Own rByte v4 d.data g4)  (hm : m13 n d b_ = some rc1) : Trip Tryz.prog 13 #[.agg (Below.enc (.pointer (some ⟨b1, 0, none⟩)) ((.pointer q1)) ((.pointer q2)) ((.pointer q3)) ((.pointer q4)) ((.pointer q5)) ((.pointer q6)) b_).toArray] ([[(b1, .cells (Dev.enc (v1) (v2) (v3) (v4) d).toArray 85 (0, 0))], g1, g2, g3, g4] ++ [C]) (fun u S' => .int .i64 rc1 = u ∧ S' = [[(b1, .cells (Dev.enc (v1) (v2) (v3) (v4) d).toArray 85 (0, 0))], g1, g2, g3, g4] ++ [C]) := by
  refine fn_entry (args := [.agg (Below.enc (.pointer (some ⟨b1, 0, none⟩)) ((.pointer q1)) ((.pointer q2)) ((.pointer q3)) ((.pointer q4)) ((.pointer q5)) ((.pointer q6)) b_).toArray]) Tryz.func13 rfl Tryz.ntmps13 rfl (fun w0 => ?_)
  refine c_seq ?_
  refine c_region ?_
  refine o_box rfl rfl rfl rfl (fun b2 => ?_)
  refine o_L (y_assign rfl) rfl rfl ?_
  refine o_nil0 rfl ?_
  refine c_seq ?_
  refine c_region ?_
  refine o_T (y_fa fl_37_0 rfl) rfl ?_
  refine o_ld one_27 rfl m0 (At.got (At.refl.comp Below.a_d)) rfl ?_
  obtain ⟨c1, hx1, hm⟩ := bd1 hm
  refine o_callC en_28 rfl (s_skip (s_take (s_take (s_take (s_take (s_take s_nil)))))) (t28 ho1 ho2 ho3 ho4 hx1) rfl (fun u1 S1 hR1 => ?_)
  obtain ⟨rfl, rfl⟩ := hR1
  refine o_rest ?_
  refine o_L (y_assign rfl) rfl rfl ?_
  refine o_nil0 rfl ?_
  refine c_ret ?_
  obtain rfl := p1 hm
  refine fun aX wX heX hsX => ret1 Tryz.results13 heX rfl (s_take (s_take (s_take (s_take (s_take (s_skip (s_take s_nil))))))) ?_
  exact ⟨rfl, rfl⟩
end Go.Proofs.Qxb6500350aGreat
