/- MADE BY PROGRAM (tools350/mir.py): mirror and walk. -/
import Derived.Test.Qxb6500350aGreatF2
set_option linter.unusedVariables false
set_option linter.unusedSimpArgs false
set_option maxRecDepth 20000
set_option maxHeartbeats 4000000
namespace Go.Proofs.Qxb6500350aGreat
open Go.Eng

/- (*objects.Store).isUsed -/
def m259 (n : Nat) (s : Store) (b_ : Int) : Option (Bool) :=
Option.bind (ckA (Int.fdiv b_ (2 ^ (min (Int.toNat 6) (IntKind.bits .i64)))) 3) fun _ =>
Option.bind (ckN (wu (bAnd .i64 b_ 63))) fun _ =>
some (decide (¬ ((bAnd .u64 (s.used (Int.fdiv b_ (2 ^ (min (Int.toNat 6) (IntKind.bits .i64))))) (wu (1 * 2 ^ (min (Int.toNat (wu (bAnd .i64 b_ 63))) (IntKind.bits .u64))))) = 0)))
theorem t259 {n : Nat} {C : List Chunk} {rc1 : Bool} {b1 : Nat} {s : Store} {q1 : Option Addr} {b_ : Int}   (hm : m259 n s b_ = some rc1) : Trip Tryz.prog 259 #[.pointer (some ⟨b1, 0, none⟩), .int .i64 b_] ([[(b1, .cells (Store.enc ((.pointer q1)) s).toArray 126 (0, 0))]] ++ [C]) (fun u S' => .bool rc1 = u ∧ S' = [[(b1, .cells (Store.enc ((.pointer q1)) s).toArray 126 (0, 0))]] ++ [C]) := by
  refine fn_entry (args := [.pointer (some ⟨b1, 0, none⟩), .int .i64 b_]) Tryz.func259 rfl Tryz.ntmps259 rfl (fun w0 => ?_)
  refine c_seq ?_
  refine c_region ?_
  refine o_L (y_assign rfl) rfl rfl ?_
  refine o_nil0 rfl ?_
  refine c_seq ?_
  refine c_region ?_
  refine o_T (y_move rfl) rfl ?_
  refine o_T (y_move rfl) rfl ?_
  refine o_T (y_shr rfl rfl (by decide) rfl) rfl ?_
  refine o_T (y_nilck rfl) rfl ?_
  refine o_T (y_fa fl_126_3 rfl) rfl ?_
  obtain ⟨_, hx1, hm⟩ := bd hm
  have hx1 := ckA_some hx1
  refine o_T (y_ia ar_124 rfl rfl hx1.1 hx1.2) rfl ?_
  refine o_ld one_123 rfl m0 (At.got ((At.refl.comp Store.a_used).comp (encN_a encU_len _ _ hx1.1 _ hx1.2))) rfl ?_
  refine o_T (y_move rfl) rfl ?_
  refine o_T (y_and rfl rfl rfl) rfl ?_
  refine o_T (y_conv Tryz.underlying3 Tryz.underlying267 rfl rfl) rfl ?_
  obtain ⟨_, hx2, hm⟩ := bd hm
  refine o_T (y_shl rfl rfl (ckN_some hx2) rfl) rfl ?_
  refine o_T (y_and rfl rfl rfl) rfl ?_
  refine o_T (y_neq rfl rfl) rfl ?_
  refine o_L (y_assign rfl) rfl rfl ?_
  refine o_nil0 rfl ?_
  refine c_ret ?_
  obtain rfl := p1 hm
  refine fun aX wX heX hsX => ret1 Tryz.results259 heX rfl (s_take (s_take s_nil)) ?_
  exact ⟨rfl, rfl⟩
end Go.Proofs.Qxb6500350aGreat
