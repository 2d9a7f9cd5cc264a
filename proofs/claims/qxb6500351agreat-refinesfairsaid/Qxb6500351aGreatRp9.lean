/- OwnAll over the pools. -/
import Derived.Test.Qxb6500351aGreatW75
import Derived.Test.Qxb6500351aGreatW74
set_option linter.unusedVariables false
set_option linter.unusedSimpArgs false
namespace Go.Proofs.Qxb6500351aGreat
open Go.Eng
theorem t82 (A : WA) (q : Bool) (x : Wrld) (V : WV) {m o : Nat} {gm go gv gd : List Chunk} {v : Value} {fr : List (List Int)} (hm : PM m V.mine gm) (ho : PO o V.outs go) (hmm : m + fr.length ≤ 2900000000000) (hoo : o ≤ 2900000000000) (hF : Frs v fr gv gd) :
    Trip Tryz.prog 82 #[.pointer (some ⟨A.b, 0, none⟩), v] [[(A.b, .cells (A.wd q x V).enc 53 (0, 0))], gm, go, gv, gd] (fun u S' => ∃ (vm vo : Value) (gm' go' : List Chunk), u = .tuple #[] ∧ PM (m + fr.length) vm gm' ∧ PO (o + 1) vo go' ∧ S' = [[(A.b, .cells (A.wd q x { V with mine := vm, outs := vo }).enc 53 (0, 0))], gm', go']) := by
  obtain ⟨outs, ga, gb, hN, rfl, h1, h2⟩ := ho
  obtain ⟨xs, ⟨hx, ⟨rfl, h0, rfl⟩ | ⟨b, cap, cur, rfl, rfl, k1, k2, k3, k4⟩⟩, he⟩ := hF
  · obtain rfl : fr = [] := List.length_eq_zero_iff.1 h0
    obtain ⟨_, rfl⟩ := he
    refine (t82z A q x V).over (F := gm ++ (ga ++ gb)) (by simp) ?_
    rintro u A' ⟨e, rfl⟩
    exact ⟨[[(A.b, .cells (A.wd q x V).enc 53 (0, 0))], gm, ga ++ gb], ⟨V.mine, V.outs, _, _, e, hm, ⟨outs, ga, gb, hN, rfl, by omega, h2⟩, rfl⟩, by simp⟩
  · have hO : LOpen 81 1 rowR b cap cur fr gd := ⟨k1, k2, k3, by rw [k4]; exact he⟩
    refine (t82r A q x V m gm outs ga gb b cap cur fr gd hN (by omega) hm hmm hO).over (F := []) (by simp) ?_
    rintro u A' ⟨vm, vo, gm', go', gdo', e, hm', hN', rfl⟩
    refine ⟨_, ⟨vm, vo, gm', go' ++ gdo', e, hm', ⟨_, go', gdo', hN', rfl, ?_, ?_⟩, rfl⟩, by simp⟩
    · split
      · omega
      · rw [List.length_append, List.length_singleton]; omega
    · split
      · exact h2
      · intro j hj
        rw [List.length_append, List.length_singleton] at hj
        by_cases hjr : j < outs.length
        · simp only [List.getElem_append_left hjr]; exact h2 j hjr
        · obtain rfl : j = outs.length := by omega
          simp
end Go.Proofs.Qxb6500351aGreat
