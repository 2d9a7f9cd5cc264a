/- MADE BY PROGRAM (tools350/mir.py): mirror and walk. -/
import Derived.Test.Qxb6500350aGreatF2
import Derived.Test.Qxb6500350aGreatT70
set_option linter.unusedVariables false
set_option linter.unusedSimpArgs false
set_option maxRecDepth 20000
set_option maxHeartbeats 4000000
namespace Go.Proofs.Qxb6500350aGreat
open Go.Eng

/- (*objects.Store).block -/
def m163 (n : Nat) (s : Store) (d : Dev) (b_ : Int) : Option ((List UInt8)) :=
ob2 (m70 n d b_) fun l1 c1 =>
cond (decide (¬ (c1 = 0))) (
Option.bind (mkL 64 64 (0 : UInt8)) fun l2 =>
some l2) (
some l1)
theorem t163 {n : Nat} {C : List Chunk} {rl1 : List UInt8} {b1 : Nat} {s : Store} {b2 : Nat} {d : Dev} {v1 : Value} {g1 : List Chunk} {v2 : Value} {g2 : List Chunk} {v3 : Value} {g3 : List Chunk} {v4 : Value} {g4 : List Chunk} {b_ : Int} (ho1 : Own rByte v1 d.blk g1) (ho2 : Own rByte v2 d.base g2) (ho3 : Own rInt v3 d.at_ g3) (ho4 : Own rByte v4 d.data g4)  (hm : m163 n s d b_ = some rl1) : Trip Tryz.prog 163 #[.pointer (some ⟨b1, 0, none⟩), .int .i64 b_] ([[(b1, .cells (Store.enc (.pointer (some ⟨b2, 0, none⟩)) s).toArray 126 (0, 0))], [(b2, .cells (Dev.enc (v1) (v2) (v3) (v4) d).toArray 85 (0, 0))], g1, g2, g3, g4] ++ [C]) (fun u S' => ∃ (ev1 : Value), ∃ (eg1 : List Chunk), ev1 = u ∧ S' = [[(b1, .cells (Store.enc (.pointer (some ⟨b2, 0, none⟩)) s).toArray 126 (0, 0))], [(b2, .cells (Dev.enc (v1) (v2) (v3) (v4) d).toArray 85 (0, 0))], g1, g2, g3, g4, eg1] ++ [C] ∧ Own rByte ev1 rl1 eg1) := by
  refine fn_entry (args := [.pointer (some ⟨b1, 0, none⟩), .int .i64 b_]) Tryz.func163 rfl Tryz.ntmps163 rfl (fun w0 => ?_)
  refine c_seq ?_
  refine c_region ?_
  have ho5 : Own rByte (.slice none 0 0) [] [] := Own.nil
  refine o_emp ?_
  refine o_L (y_assign rfl) rfl rfl ?_
  refine o_nil0 rfl ?_
  refine c_seq ?_
  refine c_region ?_
  refine o_T (y_move rfl) rfl ?_
  refine o_T (y_nilck rfl) rfl ?_
  refine o_T (y_fa fl_126_0 rfl) rfl ?_
  refine o_ld one_27 rfl (ms m0) (At.got (At.refl.comp Store.a_d)) rfl ?_
  refine o_T (y_move rfl) rfl ?_
  obtain ⟨l1, c1, hx1, hm⟩ := bd2 hm
  refine o_callC en_70 rfl (s_skip (s_skip (s_take (s_take (s_take (s_take (s_take s_nil))))))) (t70 ho1 ho2 ho3 ho4 hx1) rfl (fun u1 S1 hR1 => ?_)
  obtain ⟨v5, g5, rfl, rfl, ho6⟩ := hR1
  refine o_rest ?_
  refine o_T (y_move rfl) rfl ?_
  refine o_T (y_extract rfl rfl) rfl ?_
  refine o_T (y_extract rfl rfl) rfl ?_
  refine o_L (y_assign rfl) rfl rfl ?_
  refine o_L (y_assign rfl) rfl rfl ?_
  refine o_nil0 rfl ?_
  refine c_seq ?_
  refine c_seq ?_
  refine c_region ?_
  refine o_T (y_move rfl) rfl ?_
  refine o_T (y_neq rfl rfl) rfl ?_
  refine o_nil1 17 rfl rfl ?_
  refine c_cond rfl (fun h1 => ?_) (fun h1 => ?_)
  · have hm := cd_t h1 hm
    refine c_seq ?_
    refine c_region ?_
    obtain ⟨l2, hx2, hm⟩ := bd hm
    refine o_mkR (R := rByte) (a := 0) sz_81 rfl rfl rfl rfl rfl hx2 rfl (fun v6 g6 ho7 => ?_)
    refine o_L (y_assign rfl) rfl rfl ?_
    refine o_nil0 rfl ?_
    refine c_ret ?_
    obtain rfl := p1 hm
    refine fun aX wX heX hsX => ret1 Tryz.results163 heX rfl (s_get (ks (ks (ks (ks (ks (ks (ks (ks k0)))))))) (s_get (ks k0) (s_get (ks k0) (s_get (ks k0) (s_get (ks k0) (s_get (ks k0) (s_take (s_skip (s_skip (s_take s_nil)))))))))) ?_
    exact ⟨v6, _, rfl, rfl, ho7⟩
  · have hm := cd_f h1 hm
    refine c_skip ?_
    refine c_seq ?_
    refine c_region ?_
    refine o_T (y_move rfl) rfl ?_
    refine o_L (y_assign rfl) rfl rfl ?_
    refine o_nil0 rfl ?_
    refine c_ret ?_
    obtain rfl := p1 hm
    refine fun aX wX heX hsX => ret1 Tryz.results163 heX rfl (s_get (ks (ks (ks (ks (ks (ks (ks k0))))))) (s_take (s_take (s_take (s_take (s_take (s_take (s_skip (s_take s_nil))))))))) ?_
    exact ⟨v5, _, rfl, rfl, ho6⟩
end Go.Proofs.Qxb6500350aGreat
