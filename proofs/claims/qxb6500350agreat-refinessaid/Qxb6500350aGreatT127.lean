/- MADE BY PROGRAM (tools350/mir.py): mirror and walk. -/
import Derived.Test.Qxb6500350aGreatF2
import Derived.Test.Qxb6500350aGreatT137
import Derived.Test.Qxb6500350aGreatT138
set_option linter.unusedVariables false
set_option linter.unusedSimpArgs false
set_option maxRecDepth 20000
set_option maxHeartbeats 4000000
namespace Go.Proofs.Qxb6500350aGreat
open Go.Eng

/- (*repo.Repo).at -/
def m127 (n : Nat) (r : RepoR) (g : Graph) (h_ : Head) : Option (Int) :=
cond (decide (h_.name = [])) (
some h_.seq) (
ob1 (m137 n g) fun l1 =>
ob2 (m138 n l1 h_.name) fun c1 c2 =>
some c1)
theorem t127 {n : Nat} {C : List Chunk} {rc1 : Int} {b1 : Nat} {r : RepoR} {b2 : Nat} {g : Graph} {q1 : Option Addr} {q2 : Option Addr} {q3 : Option Addr} {h_ : Head}   (hm : m127 n r g h_ = some rc1) : Trip Tryz.prog 127 #[.pointer (some ⟨b1, 0, none⟩), .agg (Head.enc h_).toArray] ([[(b1, .cells (RepoR.enc (.pointer (some ⟨b2, 0, none⟩)) ((.pointer q2)) ((.pointer q3)) r).toArray 130 (0, 0))], [(b2, .cells (Graph.enc ((.pointer q1)) g).toArray 179 (0, 0))]] ++ [C]) (fun u S' => .int .i64 rc1 = u ∧ S' = [[(b1, .cells (RepoR.enc (.pointer (some ⟨b2, 0, none⟩)) ((.pointer q2)) ((.pointer q3)) r).toArray 130 (0, 0))], [(b2, .cells (Graph.enc ((.pointer q1)) g).toArray 179 (0, 0))]] ++ [C]) := by
  refine fn_entry (args := [.pointer (some ⟨b1, 0, none⟩), .agg (Head.enc h_).toArray]) Tryz.func127 rfl Tryz.ntmps127 rfl (fun w0 => ?_)
  refine c_seq ?_
  refine c_region ?_
  refine o_box rfl rfl rfl rfl (fun b3 => ?_)
  refine o_L (y_assign rfl) rfl rfl ?_
  refine o_nil0 rfl ?_
  refine c_seq ?_
  refine c_seq ?_
  refine c_region ?_
  refine o_T (y_fa fl_54_0 rfl) rfl ?_
  refine o_ld one_9 rfl m0 (At.got (At.refl.comp Head.a_name)) rfl ?_
  refine o_T (y_seq rfl rfl) rfl ?_
  refine o_nil1 10 rfl rfl ?_
  refine c_cond rfl (fun h1 => ?_) (fun h1 => ?_)
  · have hm := cd_t h1 hm
    refine c_seq ?_
    refine c_region ?_
    refine o_T (y_fa fl_54_1 rfl) rfl ?_
    refine o_ld one_3 rfl m0 (At.got (At.refl.comp Head.a_seq)) rfl ?_
    refine o_L (y_assign rfl) rfl rfl ?_
    refine o_nil0 rfl ?_
    refine c_ret ?_
    obtain rfl := p1 hm
    refine fun aX wX heX hsX => ret1 Tryz.results127 heX rfl (s_skip (s_take (s_take (s_take s_nil)))) ?_
    exact ⟨rfl, rfl⟩
  · have hm := cd_f h1 hm
    refine c_skip ?_
    refine c_seq ?_
    refine c_region ?_
    refine o_T (y_move rfl) rfl ?_
    refine o_T (y_nilck rfl) rfl ?_
    refine o_T (y_fa fl_130_0 rfl) rfl ?_
    refine o_ld one_30 rfl (ms m0) (At.got (At.refl.comp RepoR.a_g)) rfl ?_
    obtain ⟨l1, hx1, hm⟩ := bd1 hm
    refine o_callC en_137 rfl (s_skip (s_skip (s_take s_nil))) (t137 hx1) rfl (fun u1 S1 hR1 => ?_)
    obtain ⟨v1, g1, rfl, rfl, ho1⟩ := hR1
    refine o_rest ?_
    refine o_L (y_assign rfl) rfl rfl ?_
    refine o_nil0 rfl ?_
    refine c_seq ?_
    refine c_region ?_
    refine o_T (y_move rfl) rfl ?_
    refine o_T (y_fa fl_54_0 rfl) rfl ?_
    refine o_ld one_9 rfl (ms (ms m0)) (At.got (At.refl.comp Head.a_name)) rfl ?_
    obtain ⟨c1, c2, hx2, hm⟩ := bd2 hm
    refine o_callC en_138 rfl s_nil (t138 (ho1.rd.mono (fun _ hz => (ms (mg hz)))) hx2) rfl (fun u2 S2 hR2 => ?_)
    obtain ⟨rfl, rfl⟩ := hR2
    refine o_rest ?_
    refine o_T (y_move rfl) rfl ?_
    refine o_T (y_extract rfl rfl) rfl ?_
    refine o_T (y_extract rfl rfl) rfl ?_
    refine o_L (y_assign rfl) rfl rfl ?_
    refine o_L (y_assign rfl) rfl rfl ?_
    refine o_nil0 rfl ?_
    refine c_seq ?_
    refine c_region ?_
    refine o_T (y_move rfl) rfl ?_
    refine o_L (y_assign rfl) rfl rfl ?_
    refine o_nil0 rfl ?_
    refine c_ret ?_
    obtain rfl := p1 hm
    refine fun aX wX heX hsX => ret1 Tryz.results127 heX rfl (s_get (ks (ks (ks k0))) (s_take (s_skip (s_skip (s_take s_nil))))) ?_
    exact ⟨rfl, rfl⟩
end Go.Proofs.Qxb6500350aGreat
