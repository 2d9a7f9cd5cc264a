/- Own, OwnInts over the pools. -/
import Derived.Test.Qxb6500351aGreatW72
set_option linter.unusedVariables false
set_option linter.unusedSimpArgs false
namespace Go.Proofs.Qxb6500351aGreat
open Go.Eng
theorem t99 (A : WA) (q : Bool) (x : Wrld) (V : WV) {m : Nat} {gm g : List Chunk} {v : Value} {l : List Int} (hm : PM m V.mine gm) (hmm : m ≤ 2900000000000) (hr : RwG v l g) :
    Trip Tryz.prog 99 #[.pointer (some ⟨A.b, 0, none⟩), v] [[(A.b, .cells (A.wd q x V).enc 53 (0, 0))], gm, g] (fun u S' => ∃ (v' : Value) (gm' : List Chunk), u = .tuple #[] ∧ PM (m + 1) v' gm' ∧ S' = [[(A.b, .cells (A.wd q x { V with mine := v' }).enc 53 (0, 0))], gm']) := by
  obtain ⟨rows, gv, gd, hN, rfl, h1, h2⟩ := hm
  obtain ⟨hb, hl, ⟨rfl, rfl, rfl⟩ | ⟨b, rfl, rfl⟩⟩ := hr
  · refine (t99z A q x V).over (F := gv ++ gd) (by simp) ?_
    rintro u A' ⟨e, rfl⟩
    exact ⟨[[(A.b, .cells (A.wd q x V).enc 53 (0, 0))], gv ++ gd], ⟨V.mine, _, e, ⟨rows, gv, gd, hN, rfl, by omega, h2⟩, rfl⟩, by simp⟩
  · refine (t99r A q x V rows gv gd b l hN (by omega) hb hl).over (F := []) (by simp) ?_
    rintro u A' ⟨v', gv', gd', e, hN', rfl⟩
    refine ⟨_, ⟨v', gv' ++ gd', e, ⟨_, gv', gd', hN', rfl, ?_, ?_⟩, rfl⟩, by simp⟩
    · split
      · omega
      · rw [List.length_append, List.length_singleton]; omega
    · split
      · exact h2
      · intro j hj
        rw [List.length_append, List.length_singleton] at hj
        by_cases hjr : j < rows.length
        · simp only [List.getElem_append_left hjr]; exact h2 j hjr
        · obtain rfl : j = rows.length := by omega
          simp [stp_len]
theorem t30 (A : WA) (q : Bool) (x : Wrld) (V : WV) {m : Nat} {gm : List Chunk} {b : Nat} {l : List Int} (hm : PI m V.ints gm) (hmm : m ≤ 2900000000000) (hl : l.length ≤ 1000000) :
    Trip Tryz.prog 30 #[.pointer (some ⟨A.b, 0, none⟩), inV b l] [[(A.b, .cells (A.wd q x V).enc 53 (0, 0))], gm, inG b l 3] (fun u S' => ∃ (v' : Value) (gm' : List Chunk), u = .tuple #[] ∧ PI (m + 1) v' gm' ∧ S' = [[(A.b, .cells (A.wd q x { V with ints := v' }).enc 53 (0, 0))], gm']) := by
  obtain ⟨rows, gv, gd, hN, rfl, h1, h2⟩ := hm
  refine (t30r A q x V rows gv gd b l hN (by omega) hl).over (F := []) (by simp) ?_
  rintro u A' ⟨v', gv', gd', e, hN', rfl⟩
  refine ⟨_, ⟨v', gv' ++ gd', e, ⟨_, gv', gd', hN', rfl, ?_, ?_⟩, rfl⟩, by simp⟩
  · split
    · omega
    · rw [List.length_append, List.length_singleton]; omega
  · split
    · exact h2
    · intro j hj
      rw [List.length_append, List.length_singleton] at hj
      by_cases hjr : j < rows.length
      · simp only [List.getElem_append_left hjr]; exact h2 j hjr
      · obtain rfl : j = rows.length := by omega
        simp
end Go.Proofs.Qxb6500351aGreat
