/- MADE BY PROGRAM (tools350/mir.py): mirror and walk. -/
import Derived.Test.Qxb6500350aGreatF2
import Derived.Test.Qxb6500350aGreatT277
set_option linter.unusedVariables false
set_option linter.unusedSimpArgs false
set_option maxRecDepth 20000
set_option maxHeartbeats 4000000
namespace Go.Proofs.Qxb6500350aGreat
open Go.Eng

/- (*tree.Trees).isTree -/
def m305 (n : Nat) (t : Trees) (id : Int) : Option (Int) :=
ob1 (m277 n t id) fun c1 =>
cond (!c1) (
some 6) (
Option.bind (ckA id 49) fun _ =>
cond (decide (¬ ((t.kind id) = 2))) (
some 3) (
some 0))
theorem t305 {n : Nat} {C : List Chunk} {rc1 : Int} {b1 : Nat} {t : Trees} {q1 : Option Addr} {id : Int}   (hm : m305 n t id = some rc1) : Trip Tryz.prog 305 #[.pointer (some ⟨b1, 0, none⟩), .int .i64 id] ([[(b1, .cells (Trees.enc ((.pointer q1)) t).toArray 169 (0, 0))]] ++ [C]) (fun u S' => .int .i64 rc1 = u ∧ S' = [[(b1, .cells (Trees.enc ((.pointer q1)) t).toArray 169 (0, 0))]] ++ [C]) := by
  refine fn_entry (args := [.pointer (some ⟨b1, 0, none⟩), .int .i64 id]) Tryz.func305 rfl Tryz.ntmps305 rfl (fun w0 => ?_)
  refine c_seq ?_
  refine c_region ?_
  refine o_L (y_assign rfl) rfl rfl ?_
  refine o_nil0 rfl ?_
  refine c_seq ?_
  refine c_seq ?_
  refine c_region ?_
  refine o_T (y_move rfl) rfl ?_
  refine o_T (y_move rfl) rfl ?_
  obtain ⟨c1, hx1, hm⟩ := bd1 hm
  refine o_callC en_277 rfl (s_take s_nil) (t277 hx1) rfl (fun u1 S1 hR1 => ?_)
  obtain ⟨rfl, rfl⟩ := hR1
  refine o_rest ?_
  refine o_T (y_not rfl) rfl ?_
  refine o_nil1 8 rfl rfl ?_
  refine c_cond rfl (fun h1 => ?_) (fun h1 => ?_)
  · have hm := cd_t h1 hm
    refine c_seq ?_
    refine c_region ?_
    refine o_L (y_assign rfl) rfl rfl ?_
    refine o_nil0 rfl ?_
    refine c_ret ?_
    obtain rfl := p1 hm
    refine fun aX wX heX hsX => ret1 Tryz.results305 heX rfl (s_take (s_take s_nil)) ?_
    exact ⟨rfl, rfl⟩
  · have hm := cd_f h1 hm
    refine c_skip ?_
    refine c_seq ?_
    refine c_seq ?_
    refine c_region ?_
    refine o_T (y_move rfl) rfl ?_
    refine o_T (y_move rfl) rfl ?_
    refine o_T (y_nilck rfl) rfl ?_
    refine o_T (y_fa fl_169_1 rfl) rfl ?_
    obtain ⟨_, hx2, hm⟩ := bd hm
    have hx2 := ckA_some hx2
    refine o_T (y_ia ar_167 rfl rfl hx2.1 hx2.2) rfl ?_
    refine o_ld one_3 rfl m0 (At.got ((At.refl.comp Trees.a_kind).comp (encN_a encI_len _ _ hx2.1 _ hx2.2))) rfl ?_
    refine o_T (y_neq rfl rfl) rfl ?_
    refine o_nil1 15 rfl rfl ?_
    refine c_cond rfl (fun h2 => ?_) (fun h2 => ?_)
    · have hm := cd_t h2 hm
      refine c_seq ?_
      refine c_region ?_
      refine o_L (y_assign rfl) rfl rfl ?_
      refine o_nil0 rfl ?_
      refine c_ret ?_
      obtain rfl := p1 hm
      refine fun aX wX heX hsX => ret1 Tryz.results305 heX rfl (s_take (s_take s_nil)) ?_
      exact ⟨rfl, rfl⟩
    · have hm := cd_f h2 hm
      refine c_skip ?_
      refine c_seq ?_
      refine c_region ?_
      refine o_L (y_assign rfl) rfl rfl ?_
      refine o_nil0 rfl ?_
      refine c_ret ?_
      obtain rfl := p1 hm
      refine fun aX wX heX hsX => ret1 Tryz.results305 heX rfl (s_take (s_take s_nil)) ?_
      exact ⟨rfl, rfl⟩
end Go.Proofs.Qxb6500350aGreat
