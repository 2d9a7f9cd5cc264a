/- MADE BY PROGRAM (tools350/mir.py): mirror and walk. -/
import Derived.Test.Qxb6500350aGreatF2
import Derived.Test.Qxb6500350aGreatT112
import Derived.Test.Qxb6500350aGreatT16
set_option linter.unusedVariables false
set_option linter.unusedSimpArgs false
set_option maxRecDepth 20000
set_option maxHeartbeats 4000000
namespace Go.Proofs.Qxb6500350aGreat
open Go.Eng

/- towerlaw.RoomIs -/
def m44 (n : Nat) (g : Graph) (s : Store) (r : RepoR) (t : Trees) (b_ : Below) : Option (Bool) :=
ob1 (m112 n r g t s) fun c1 =>
ob1 (m16 n s b_) fun c2 =>
some (decide (c1 = c2))
theorem t44 {n : Nat} {C : List Chunk} {rc1 : Bool} {b_ : Below} {q1 : Option Addr} {b1 : Nat} {s : Store} {q2 : Option Addr} {b2 : Nat} {t : Trees} {b3 : Nat} {g : Graph} {q3 : Option Addr} {q4 : Option Addr} {b4 : Nat} {r : RepoR} {q5 : Option Addr} {q6 : Option Addr}   (hm : m44 n g s r t b_ = some rc1) : Trip Tryz.prog 44 #[.agg (Below.enc ((.pointer q1)) (.pointer (some ⟨b1, 0, none⟩)) (.pointer (some ⟨b2, 0, none⟩)) (.pointer (some ⟨b3, 0, none⟩)) ((.pointer q3)) ((.pointer q4)) (.pointer (some ⟨b4, 0, none⟩)) b_).toArray] ([[(b3, .cells (Graph.enc (.pointer (some ⟨b2, 0, none⟩)) g).toArray 179 (0, 0))], [(b1, .cells (Store.enc ((.pointer q2)) s).toArray 126 (0, 0))], [(b4, .cells (RepoR.enc (.pointer (some ⟨b3, 0, none⟩)) ((.pointer q5)) ((.pointer q6)) r).toArray 130 (0, 0))], [(b2, .cells (Trees.enc (.pointer (some ⟨b1, 0, none⟩)) t).toArray 169 (0, 0))]] ++ [C]) (fun u S' => .bool rc1 = u ∧ S' = [[(b3, .cells (Graph.enc (.pointer (some ⟨b2, 0, none⟩)) g).toArray 179 (0, 0))], [(b1, .cells (Store.enc ((.pointer q2)) s).toArray 126 (0, 0))], [(b4, .cells (RepoR.enc (.pointer (some ⟨b3, 0, none⟩)) ((.pointer q5)) ((.pointer q6)) r).toArray 130 (0, 0))], [(b2, .cells (Trees.enc (.pointer (some ⟨b1, 0, none⟩)) t).toArray 169 (0, 0))]] ++ [C]) := by
  refine fn_entry (args := [.agg (Below.enc ((.pointer q1)) (.pointer (some ⟨b1, 0, none⟩)) (.pointer (some ⟨b2, 0, none⟩)) (.pointer (some ⟨b3, 0, none⟩)) ((.pointer q3)) ((.pointer q4)) (.pointer (some ⟨b4, 0, none⟩)) b_).toArray]) Tryz.func44 rfl Tryz.ntmps44 rfl (fun w0 => ?_)
  refine c_seq ?_
  refine c_region ?_
  refine o_box rfl rfl rfl rfl (fun b5 => ?_)
  refine o_L (y_assign rfl) rfl rfl ?_
  refine o_nil0 rfl ?_
  refine c_seq ?_
  refine c_region ?_
  refine o_T (y_fa fl_37_1 rfl) rfl ?_
  refine o_T (y_fa fl_35_5 rfl) rfl ?_
  refine o_ld one_33 rfl m0 (At.got ((At.refl.comp Below.a_w).comp Tower.a_r)) rfl ?_
  obtain ⟨c1, hx1, hm⟩ := bd1 hm
  refine o_callC en_112 rfl (s_skip (s_get (ks (ks k0)) (s_take (s_get (ks k0) (s_take s_nil))))) (t112 hx1) rfl (fun u1 S1 hR1 => ?_)
  obtain ⟨rfl, rfl⟩ := hR1
  refine o_rest ?_
  refine o_L (y_assign rfl) rfl rfl ?_
  refine o_nil0 rfl ?_
  refine c_seq ?_
  refine c_region ?_
  refine o_lda ag_37 rfl (ms (ms (ms (ms m0)))) (At.exs At.refl (Below.len _ _ _ _ _ _ _ _)) (At.fits At.refl (Below.len _ _ _ _ _ _ _ _)) rfl ?_
  obtain ⟨c2, hx2, hm⟩ := bd1 hm
  refine o_callC en_16 rfl (s_skip (s_skip (s_skip (s_take s_nil)))) (t16 hx2) rfl (fun u2 S2 hR2 => ?_)
  obtain ⟨rfl, rfl⟩ := hR2
  refine o_rest ?_
  refine o_L (y_assign rfl) rfl rfl ?_
  refine o_nil0 rfl ?_
  refine c_seq ?_
  refine c_region ?_
  refine o_T (y_move rfl) rfl ?_
  refine o_T (y_move rfl) rfl ?_
  refine o_T (y_eql rfl rfl) rfl ?_
  refine o_L (y_assign rfl) rfl rfl ?_
  refine o_nil0 rfl ?_
  refine c_ret ?_
  obtain rfl := p1 hm
  refine fun aX wX heX hsX => ret1 Tryz.results44 heX rfl (s_get (ks (ks k0)) (s_take (s_take (s_take (s_skip (s_take s_nil)))))) ?_
  exact ⟨rfl, rfl⟩
end Go.Proofs.Qxb6500350aGreat
