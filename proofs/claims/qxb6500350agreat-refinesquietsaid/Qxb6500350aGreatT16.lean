/- MADE BY PROGRAM (tools350/mir.py): mirror and walk. -/
import Derived.Test.Qxb6500350aGreatF2
import Derived.Test.Qxb6500350aGreatT46
set_option linter.unusedVariables false
set_option linter.unusedSimpArgs false
set_option maxRecDepth 20000
set_option maxHeartbeats 4000000
namespace Go.Proofs.Qxb6500350aGreat
open Go.Eng

/- towerlaw.Free -/
def m16 (n : Nat) (s : Store) (b_ : Below) : Option (Int) :=
ob1 (m46 n s) fun c1 =>
some c1
theorem t16 {n : Nat} {C : List Chunk} {rc1 : Int} {b_ : Below} {q1 : Option Addr} {b1 : Nat} {s : Store} {q2 : Option Addr} {q3 : Option Addr} {q4 : Option Addr} {q5 : Option Addr} {q6 : Option Addr} {q7 : Option Addr}   (hm : m16 n s b_ = some rc1) : Trip Tryz.prog 16 #[.agg (Below.enc ((.pointer q1)) (.pointer (some ⟨b1, 0, none⟩)) ((.pointer q3)) ((.pointer q4)) ((.pointer q5)) ((.pointer q6)) ((.pointer q7)) b_).toArray] ([[(b1, .cells (Store.enc ((.pointer q2)) s).toArray 126 (0, 0))]] ++ [C]) (fun u S' => .int .i64 rc1 = u ∧ S' = [[(b1, .cells (Store.enc ((.pointer q2)) s).toArray 126 (0, 0))]] ++ [C]) := by
  refine fn_entry (args := [.agg (Below.enc ((.pointer q1)) (.pointer (some ⟨b1, 0, none⟩)) ((.pointer q3)) ((.pointer q4)) ((.pointer q5)) ((.pointer q6)) ((.pointer q7)) b_).toArray]) Tryz.func16 rfl Tryz.ntmps16 rfl (fun w0 => ?_)
  refine c_seq ?_
  refine c_region ?_
  refine o_box rfl rfl rfl rfl (fun b2 => ?_)
  refine o_L (y_assign rfl) rfl rfl ?_
  refine o_nil0 rfl ?_
  refine c_seq ?_
  refine c_region ?_
  refine o_T (y_fa fl_37_1 rfl) rfl ?_
  refine o_T (y_fa fl_35_0 rfl) rfl ?_
  refine o_ld one_28 rfl m0 (At.got ((At.refl.comp Below.a_w).comp Tower.a_o)) rfl ?_
  obtain ⟨c1, hx1, hm⟩ := bd1 hm
  refine o_callC en_46 rfl (s_skip (s_take s_nil)) (t46 hx1) rfl (fun u1 S1 hR1 => ?_)
  obtain ⟨rfl, rfl⟩ := hR1
  refine o_rest ?_
  refine o_L (y_assign rfl) rfl rfl ?_
  refine o_nil0 rfl ?_
  refine c_ret ?_
  obtain rfl := p1 hm
  refine fun aX wX heX hsX => ret1 Tryz.results16 heX rfl (s_take (s_skip (s_take s_nil))) ?_
  exact ⟨rfl, rfl⟩
end Go.Proofs.Qxb6500350aGreat
