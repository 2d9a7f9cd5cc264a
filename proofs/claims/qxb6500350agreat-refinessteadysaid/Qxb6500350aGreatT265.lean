/- MADE BY PROGRAM (tools350/mir.py): mirror and walk. -/
import Derived.Test.Qxb6500350aGreatF2
import Derived.Test.Qxb6500350aGreatT219
set_option linter.unusedVariables false
set_option linter.unusedSimpArgs false
set_option maxRecDepth 20000
set_option maxHeartbeats 4000000
namespace Go.Proofs.Qxb6500350aGreat
open Go.Eng

/- (*graph.Graph).isTree -/
def m265 (n : Nat) (g : Graph) (t : Trees) (s : Store) (d : Dev) (id : Int) : Option (Bool) :=
ob3 (m219 n t s d id) fun c1 l1 c2 =>
some ((decide (c2 = 0)) && (decide (c1 = 2)))
theorem t265 {n : Nat} {C : List Chunk} {rc1 : Bool} {b1 : Nat} {g : Graph} {b2 : Nat} {t : Trees} {b3 : Nat} {s : Store} {b4 : Nat} {d : Dev} {v1 : Value} {g1 : List Chunk} {v2 : Value} {g2 : List Chunk} {v3 : Value} {g3 : List Chunk} {v4 : Value} {g4 : List Chunk} {id : Int} (ho1 : Own rByte v1 d.blk g1) (ho2 : Own rByte v2 d.base g2) (ho3 : Own rInt v3 d.at_ g3) (ho4 : Own rByte v4 d.data g4)  (hm : m265 n g t s d id = some rc1) : Trip Tryz.prog 265 #[.pointer (some ⟨b1, 0, none⟩), .int .i64 id] ([[(b1, .cells (Graph.enc (.pointer (some ⟨b2, 0, none⟩)) g).toArray 179 (0, 0))], [(b2, .cells (Trees.enc (.pointer (some ⟨b3, 0, none⟩)) t).toArray 169 (0, 0))], [(b3, .cells (Store.enc (.pointer (some ⟨b4, 0, none⟩)) s).toArray 126 (0, 0))], [(b4, .cells (Dev.enc (v1) (v2) (v3) (v4) d).toArray 85 (0, 0))], g1, g2, g3, g4] ++ [C]) (fun u S' => .bool rc1 = u ∧ S' = [[(b1, .cells (Graph.enc (.pointer (some ⟨b2, 0, none⟩)) g).toArray 179 (0, 0))], [(b2, .cells (Trees.enc (.pointer (some ⟨b3, 0, none⟩)) t).toArray 169 (0, 0))], [(b3, .cells (Store.enc (.pointer (some ⟨b4, 0, none⟩)) s).toArray 126 (0, 0))], [(b4, .cells (Dev.enc (v1) (v2) (v3) (v4) d).toArray 85 (0, 0))], g1, g2, g3, g4] ++ [C]) := by
  refine fn_entry (args := [.pointer (some ⟨b1, 0, none⟩), .int .i64 id]) Tryz.func265 rfl Tryz.ntmps265 rfl (fun w0 => ?_)
  refine c_seq ?_
  refine c_region ?_
  refine o_L (y_assign rfl) rfl rfl ?_
  refine o_nil0 rfl ?_
  refine c_seq ?_
  refine c_region ?_
  refine o_T (y_move rfl) rfl ?_
  refine o_T (y_nilck rfl) rfl ?_
  refine o_T (y_fa fl_179_0 rfl) rfl ?_
  refine o_ld one_29 rfl m0 (At.got (At.refl.comp Graph.a_t)) rfl ?_
  refine o_T (y_move rfl) rfl ?_
  obtain ⟨c1, l1, c2, hx1, hm⟩ := bd3 hm
  refine o_callC en_219 rfl (s_skip (s_take (s_take (s_take (s_take (s_take (s_take (s_take s_nil)))))))) (t219 ho1 ho2 ho3 ho4 hx1) rfl (fun u1 S1 hR1 => ?_)
  obtain ⟨v5, g5, rfl, rfl, ho5⟩ := hR1
  refine o_rest ?_
  refine o_T (y_move rfl) rfl ?_
  refine o_T (y_extract rfl rfl) rfl ?_
  refine o_T (y_extract rfl rfl) rfl ?_
  refine o_T (y_extract rfl rfl) rfl ?_
  refine o_L (y_assign rfl) rfl rfl ?_
  refine o_L (y_assign rfl) rfl rfl ?_
  refine o_L (y_assign rfl) rfl rfl ?_
  refine o_nil0 rfl ?_
  refine c_seq ?_
  refine c_joinP (n := 0) (fun sh G => sh = [(4, .bool ((decide (c2 = 0)) && (decide (c1 = 2))))] ∧ G = []) Sel.all' .z (fun _ _ h => h) ?_ ?_
  · skip
    refine c_region ?_
    refine o_T (y_move rfl) rfl ?_
    refine o_T (y_eql rfl rfl) rfl ?_
    refine o_T (y_move rfl) rfl ?_
    refine o_split 20 rfl (fun h1 => ?_) (fun h1 => ?_)
    · skip
      refine o_take rfl rfl rfl ?_
      refine o_T (y_move rfl) rfl ?_
      refine o_take rfl rfl rfl ?_
      refine o_T (y_eql rfl rfl) rfl ?_
      refine o_T (y_pickT rfl rfl) rfl ?_
      refine o_L (y_assign rfl) rfl rfl ?_
      refine o_nil0 rfl ?_
      refine ⟨_, _, ⟨rfl, rfl⟩, ⟨by first | rfl | exact gtb rfl (by simp only [h1, Bool.true_and, Bool.false_and, Bool.true_or, Bool.false_or, Bool.and_true, Bool.and_false, Bool.or_true, Bool.or_false, Bool.not_true, Bool.not_false]), trivial⟩, ⟨rfl, rfl⟩, _, (s_take (s_take (s_take (s_take (s_take (s_take (s_take (s_take (s_take (s_take s_nil))))))))))⟩
    · skip
      refine o_pass rfl rfl rfl rfl rfl ?_
      refine o_pass rfl rfl rfl rfl rfl ?_
      refine o_T (y_pickF rfl rfl) rfl ?_
      refine o_L (y_assign rfl) rfl rfl ?_
      refine o_nil0 rfl ?_
      refine ⟨_, _, ⟨rfl, rfl⟩, ⟨by first | rfl | exact gtb rfl (by simp only [h1, Bool.true_and, Bool.false_and, Bool.true_or, Bool.false_or, Bool.and_true, Bool.and_false, Bool.or_true, Bool.or_false, Bool.not_true, Bool.not_false]), trivial⟩, ⟨rfl, rfl⟩, _, (s_take (s_take (s_take (s_take (s_take (s_take (s_take (s_take (s_take (s_take s_nil))))))))))⟩
  · rintro sh G ⟨rfl, rfl⟩
    refine c_ret ?_
    obtain rfl := p1 hm
    refine fun aX wX heX hsX => ret1 Tryz.results265 heX rfl (s_get (ks (ks (ks (ks (ks (ks (ks (ks k0)))))))) (s_take (s_take (s_take (s_take (s_take (s_take (s_take (s_skip (s_take s_nil)))))))))) ?_
    exact ⟨rfl, rfl⟩
end Go.Proofs.Qxb6500350aGreat
