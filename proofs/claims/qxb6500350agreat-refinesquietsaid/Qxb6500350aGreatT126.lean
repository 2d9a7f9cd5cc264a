/- MADE BY PROGRAM (tools350/mir.py): mirror and walk. -/
import Derived.Test.Qxb6500350aGreatF2
import Derived.Test.Qxb6500350aGreatT210
set_option linter.unusedVariables false
set_option linter.unusedSimpArgs false
set_option maxRecDepth 20000
set_option maxHeartbeats 4000000
namespace Go.Proofs.Qxb6500350aGreat
open Go.Eng

/- (*graph.Graph).Head -/
def m126 (n : Nat) (g : Graph) : Option (Head) :=
ob1 (m210 n g g.at_) fun c1 =>
ob1 (m210 n g g.merge) fun c2 =>
nm (({ name := g.name, seq := c1, merge := c2 } : Head) : Head) fun z1 =>
some z1
theorem t126 {n : Nat} {C : List Chunk} {rx1 : Head} {b1 : Nat} {g : Graph} {q1 : Option Addr}   (hm : m126 n g = some rx1) : Trip Tryz.prog 126 #[.pointer (some ⟨b1, 0, none⟩)] ([[(b1, .cells (Graph.enc ((.pointer q1)) g).toArray 179 (0, 0))]] ++ [C]) (fun u S' => .agg (Head.enc rx1).toArray = u ∧ S' = [[(b1, .cells (Graph.enc ((.pointer q1)) g).toArray 179 (0, 0))]] ++ [C]) := by
  refine fn_entry (args := [.pointer (some ⟨b1, 0, none⟩)]) Tryz.func126 rfl Tryz.ntmps126 rfl (fun w0 => ?_)
  refine c_seq ?_
  refine c_region ?_
  refine o_alloc ze_54 rfl rfl (fun b2 => ?_)
  refine o_nil0 rfl ?_
  refine c_seq ?_
  refine c_region ?_
  refine o_T (y_move rfl) rfl ?_
  refine o_T (y_move rfl) rfl ?_
  refine o_T (y_nilck rfl) rfl ?_
  refine o_T (y_fa fl_179_7 rfl) rfl ?_
  refine o_ld one_3 rfl (ms m0) (At.got (At.refl.comp Graph.a_at_)) rfl ?_
  obtain ⟨c1, hx1, hm⟩ := bd1 hm
  refine o_callC en_210 rfl (s_skip (s_take s_nil)) (t210 hx1) rfl (fun u1 S1 hR1 => ?_)
  obtain ⟨rfl, rfl⟩ := hR1
  refine o_rest ?_
  refine o_L (y_assign rfl) rfl rfl ?_
  refine o_nil0 rfl ?_
  refine c_seq ?_
  refine c_region ?_
  refine o_T (y_move rfl) rfl ?_
  refine o_T (y_move rfl) rfl ?_
  refine o_T (y_nilck rfl) rfl ?_
  refine o_T (y_fa fl_179_8 rfl) rfl ?_
  refine o_ld one_3 rfl m0 (At.got (At.refl.comp Graph.a_merge)) rfl ?_
  obtain ⟨c2, hx2, hm⟩ := bd1 hm
  refine o_callC en_210 rfl (s_take s_nil) (t210 hx2) rfl (fun u2 S2 hR2 => ?_)
  obtain ⟨rfl, rfl⟩ := hR2
  refine o_rest ?_
  refine o_L (y_assign rfl) rfl rfl ?_
  refine o_nil0 rfl ?_
  refine c_seq ?_
  refine c_region ?_
  refine o_T (y_move rfl) rfl ?_
  refine o_T (y_nilck rfl) rfl ?_
  refine o_T (y_fa fl_179_6 rfl) rfl ?_
  refine o_ld one_9 rfl m0 (At.got (At.refl.comp Graph.a_name)) rfl ?_
  refine o_T (y_move rfl) rfl ?_
  refine o_T (y_move rfl) rfl ?_
  refine o_T (y_build st_54 rfl (fbU rfl Head.u_name rfl rfl (fbU rfl Head.u_seq rfl rfl (fbU rfl Head.u_merge rfl rfl fbU0)))) rfl ?_
  obtain ⟨z1, hn1, hm⟩ := nm_s hm
  refine o_stNA ag_54 rfl rfl (Head.plain _) (Head.len _) (Upd.refl ((Head.len _).trans (Head.len _).symm)) (rs r0) (show (Head.enc z1) = _ from by subst hn1; rfl) ?_
  refine o_nil0 rfl ?_
  refine c_ret ?_
  obtain rfl := p1 hm
  refine fun aX wX heX hsX => retc Tryz.results126 heX hsX rfl ag_54 (ms m0) (by simp [Head.len]) (s_take (s_skip (s_take s_nil))) ?_
  exact ⟨rfl, rfl⟩
end Go.Proofs.Qxb6500350aGreat
