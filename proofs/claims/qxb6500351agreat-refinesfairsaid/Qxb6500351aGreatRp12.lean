/- SameConn over what Info answers. -/
import Derived.Test.Qxb6500351aGreatMd27
import Derived.Test.Qxb6500351aGreatW68
import Derived.Test.Qxb6500351aGreatW91
set_option linter.unusedVariables false
set_option linter.unusedSimpArgs false
namespace Go.Proofs.Qxb6500351aGreat
open Go.Eng
theorem t75i {e : Int} {ci : Ci} {v1 v2 : Value} {g1 g2 : List Chunk} (h1 : InfG e ci v1 g1) (h2 : InfG e ci v2 g2) : Trip Tryz.prog 75 #[v1, v2] [g1, g2] (fun u S' => u = .bool true ∧ S' = [g1, g2]) := by
  rcases h1 with ⟨a, rfl, rfl⟩ | ⟨a, b1, rfl, rfl⟩
  · rcases h2 with ⟨_, rfl, rfl⟩ | ⟨k, _⟩
    · exact t75n.over (F := []) (by simp) fun u A' ⟨k1, k2⟩ => ⟨[[], []], ⟨k2, rfl⟩, by subst k1; simp⟩
    · exact absurd k a
  · rcases h2 with ⟨k, _⟩ | ⟨_, b2, rfl, rfl⟩
    · exact absurd a k
    · exact t75 b1 b2 ci
end Go.Proofs.Qxb6500351aGreat
