/- MADE BY PROGRAM (tools350/mir.py): mirror and walk. -/
import Derived.Test.Qxb6500350aGreatF2
import Derived.Test.Qxb6500350aGreatT16
import Derived.Test.Qxb6500350aGreatT17
set_option linter.unusedVariables false
set_option linter.unusedSimpArgs false
set_option maxRecDepth 20000
set_option maxHeartbeats 4000000
namespace Go.Proofs.Qxb6500350aGreat
open Go.Eng

/- towerlaw.RoomHolds -/
def m20 (n : Nat) (s : Store) (m : RepoM) (b_ : Below) (exact : Bool) : Option (Bool) :=
ob1 (m16 n s b_) fun c1 =>
ob1 (m17 n m) fun c2 =>
cond exact (
some (decide (c1 = c2))) (
some (decide (c2 ≤ c1)))
theorem t20 {n : Nat} {C : List Chunk} {rc1 : Bool} {b_ : Below} {q1 : Option Addr} {b1 : Nat} {s : Store} {q2 : Option Addr} {q3 : Option Addr} {q4 : Option Addr} {q5 : Option Addr} {q6 : Option Addr} {q7 : Option Addr} {b2 : Nat} {m : RepoM} {v1 : Value} {g1 : List Chunk} {v2 : Value} {g2 : List Chunk} {v3 : Value} {g3 : List Chunk} {v4 : Value} {g4 : List Chunk} {exact : Bool} (ho1 : Own rNode v1 m.nodes g1) (ho2 : Own rRef_ v2 m.refs g2) (ho3 : Own rFile v3 m.index g3) (ho4 : Own rFile v4 m.work g4)  (hm : m20 n s m b_ exact = some rc1) : Trip Tryz.prog 20 #[.agg (Below.enc ((.pointer q1)) (.pointer (some ⟨b1, 0, none⟩)) ((.pointer q3)) ((.pointer q4)) ((.pointer q5)) ((.pointer q6)) ((.pointer q7)) b_).toArray, .pointer (some ⟨b2, 0, none⟩), .bool exact] ([[(b1, .cells (Store.enc ((.pointer q2)) s).toArray 126 (0, 0))], [(b2, .cells (RepoM.enc (v1) (v2) (v3) (v4) m).toArray 59 (0, 0))], g1, g2, g3, g4] ++ [C]) (fun u S' => .bool rc1 = u ∧ S' = [[(b1, .cells (Store.enc ((.pointer q2)) s).toArray 126 (0, 0))], [(b2, .cells (RepoM.enc (v1) (v2) (v3) (v4) m).toArray 59 (0, 0))], g1, g2, g3, g4] ++ [C]) := by
  refine fn_entry (args := [.agg (Below.enc ((.pointer q1)) (.pointer (some ⟨b1, 0, none⟩)) ((.pointer q3)) ((.pointer q4)) ((.pointer q5)) ((.pointer q6)) ((.pointer q7)) b_).toArray, .pointer (some ⟨b2, 0, none⟩), .bool exact]) Tryz.func20 rfl Tryz.ntmps20 rfl (fun w0 => ?_)
  refine c_seq ?_
  refine c_region ?_
  refine o_box rfl rfl rfl rfl (fun b3 => ?_)
  refine o_L (y_assign rfl) rfl rfl ?_
  refine o_nil0 rfl ?_
  refine c_seq ?_
  refine c_region ?_
  refine o_lda ag_37 rfl m0 (At.exs At.refl (Below.len _ _ _ _ _ _ _ _)) (At.fits At.refl (Below.len _ _ _ _ _ _ _ _)) rfl ?_
  obtain ⟨c1, hx1, hm⟩ := bd1 hm
  refine o_callC en_16 rfl (s_skip (s_take s_nil)) (t16 hx1) rfl (fun u1 S1 hR1 => ?_)
  obtain ⟨rfl, rfl⟩ := hR1
  refine o_rest ?_
  refine o_L (y_assign rfl) rfl rfl ?_
  refine o_nil0 rfl ?_
  refine c_seq ?_
  refine c_region ?_
  refine o_T (y_move rfl) rfl ?_
  obtain ⟨c2, hx2, hm⟩ := bd1 hm
  refine o_callC en_17 rfl (s_skip (s_skip (s_take (s_take (s_take (s_take (s_take s_nil))))))) (t17 ho1 ho2 ho3 ho4 hx2) rfl (fun u2 S2 hR2 => ?_)
  obtain ⟨rfl, rfl⟩ := hR2
  refine o_rest ?_
  refine o_L (y_assign rfl) rfl rfl ?_
  refine o_nil0 rfl ?_
  refine c_seq ?_
  refine c_seq ?_
  refine c_region ?_
  refine o_T (y_move rfl) rfl ?_
  refine o_nil1 13 rfl rfl ?_
  refine c_cond rfl (fun h1 => ?_) (fun h1 => ?_)
  · have hm := cd_t h1 hm
    refine c_seq ?_
    refine c_region ?_
    refine o_T (y_move rfl) rfl ?_
    refine o_T (y_move rfl) rfl ?_
    refine o_T (y_eql rfl rfl) rfl ?_
    refine o_L (y_assign rfl) rfl rfl ?_
    refine o_nil0 rfl ?_
    refine c_ret ?_
    obtain rfl := p1 hm
    refine fun aX wX heX hsX => ret1 Tryz.results20 heX rfl (s_get (ks (ks (ks (ks (ks k0))))) (s_take (s_take (s_take (s_take (s_take (s_skip (s_take s_nil)))))))) ?_
    exact ⟨rfl, rfl⟩
  · have hm := cd_f h1 hm
    refine c_skip ?_
    refine c_seq ?_
    refine c_region ?_
    refine o_T (y_move rfl) rfl ?_
    refine o_T (y_move rfl) rfl ?_
    refine o_T (y_geq rfl rfl) rfl ?_
    refine o_L (y_assign rfl) rfl rfl ?_
    refine o_nil0 rfl ?_
    refine c_ret ?_
    obtain rfl := p1 hm
    refine fun aX wX heX hsX => ret1 Tryz.results20 heX rfl (s_get (ks (ks (ks (ks (ks k0))))) (s_take (s_take (s_take (s_take (s_take (s_skip (s_take s_nil)))))))) ?_
    exact ⟨rfl, rfl⟩
end Go.Proofs.Qxb6500350aGreat
