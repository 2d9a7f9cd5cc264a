/- A list of numbers copied, nil or not. -/
import Derived.Test.Qxb6500351aGreatW63
set_option linter.unusedVariables false
set_option linter.unusedSimpArgs false
namespace Go.Proofs.Qxb6500351aGreat
open Go.Eng
theorem t29 (v : Value) (l : List Int) (g : List Chunk) (h : Inl v l g) : Trip Tryz.prog 29 #[v] [g] (fun u S' => ∃ b2, u = inV b2 l ∧ S' = [g, inG b2 l 3]) := by
  obtain ⟨hl, ⟨rfl, rfl, rfl⟩ | ⟨b, rfl, rfl⟩⟩ := h
  · exact t29z
  · exact t29r b l hl
theorem Inl.row {b : Nat} {l : List Int} (h : l.length ≤ 1073741824) : Inl (inV b l) l (inG b l 3) := ⟨h, .inr ⟨b, rfl, rfl⟩⟩
theorem Inl.nil : Inl (.slice none 0 0) [] [] := ⟨by simp, .inl ⟨rfl, rfl, rfl⟩⟩
end Go.Proofs.Qxb6500351aGreat
