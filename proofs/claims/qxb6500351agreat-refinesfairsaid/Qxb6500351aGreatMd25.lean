/- What the walks of the calls ask: plain lemmas. -/
import Derived.Test.Qxb6500351aGreatRp11
set_option linter.unusedVariables false
set_option linter.unusedSimpArgs false
namespace Go.Proofs.Qxb6500351aGreat
open Go.Eng
theorem find_at {α : Type} {p : α → Bool} {l : List α} {k : Nat} (h : ∀ y ∈ l.take k, ¬ p y = true) (hk : k < l.length) (e : p l[k] = true) : l.find? p = some l[k] := by
  have h1 : l = l.take k ++ l[k] :: l.drop (k + 1) := by rw [← List.drop_eq_getElem_cons hk, List.take_append_drop]
  have h2 : (l.take k).find? p = none := by rw [List.find?_eq_none]; exact h
  have h3 : (l.take k ++ l[k] :: l.drop (k + 1)).find? p = some l[k] := by rw [List.find?_append, h2, Option.none_or, List.find?_cons_of_pos e]
  rwa [← h1] at h3
/-- the state of the search -/
def AccI (x : Wrld) (c : Nat) (lsd : Int) (i : Nat) (wn ch : Int) : Prop := (wn = 14 ∧ ch = 0 ∧ ∀ y ∈ x.ready.take i, ¬ wOf c lsd y = true) ∨ (∃ r, x.ready.find? (wOf c lsd) = some r ∧ wn = 0 ∧ ch = r.sd)
theorem AccI.none {x : Wrld} {c : Nat} {lsd : Int} {i : Nat} {wn ch : Int} (h : AccI x c lsd i wn ch) (hsd : ∀ r, r ∈ x.ready → r.sd ≠ 0) (h0 : ch = 0) : wn = 14 ∧ ch = 0 ∧ ∀ y ∈ x.ready.take i, ¬ wOf c lsd y = true := by
  rcases h with z | ⟨r, z1, z2, z3⟩
  · exact z
  · exact absurd (z3.symm.trans h0) (hsd r (List.mem_of_find?_eq_some z1))
theorem AccI.end {x : Wrld} {c : Nat} {lsd : Int} {i : Nat} {wn ch : Int} (h : AccI x c lsd i wn ch) (hl : (x.H c).lisB lsd = true) (he : x.ready.length ≤ i ∨ ¬ ch = 0) : wn = (x.accW c lsd).1 ∧ ch = (x.accW c lsd).2 := by
  unfold Wrld.accW
  rw [if_pos hl]
  rcases h with ⟨z1, z2, z3⟩ | ⟨r, z1, z2, z3⟩
  · rcases he with he | he
    · rw [List.take_of_length_le he] at z3
      have : x.ready.find? (wOf c lsd) = Option.none := by rw [List.find?_eq_none]; exact z3
      rw [this]; exact ⟨z1, z2⟩
    · exact absurd z2 he
  · rw [z1]; exact ⟨z2, z3⟩
theorem Wrld.accW_no {x : Wrld} {c : Nat} {lsd : Int} (h : (x.H c).lisB lsd = false) : x.accW c lsd = (21, 0) := by unfold Wrld.accW; rw [if_neg (by rw [h]; decide)]
theorem wOf_iff {h p : Int} {r : Wt} : wOf h p r = true ↔ r.host = h ∧ r.parent = p := by unfold wOf; rw [Bool.and_eq_true, decide_eq_true_eq, decide_eq_true_eq]
end Go.Proofs.Qxb6500351aGreat
