/- Second forms of proved walks. -/
import Derived.Test.Qxb6500351aGreatW1
import Derived.Test.Qxb6500351aGreatMd5
namespace Go.Proofs.Qxb6500351aGreat
open Go.Eng
theorem lapp_b {a b : Nat} (h : a ≤ 1000) (k : b ≤ 1000) : (a + b + 4096) * 72 ≤ 70368744177664 := by omega
theorem lapp_c {a b : Nat} (h : a ≤ 1000) (k : b ≤ 1000) : a + b ≤ 4611686018427387903 := by omega
theorem t143i (a n : Int) (h0 : n = 0) (h : 0 ≤ a ∧ a < 256) : Trip Tryz.prog 143 #[.int .i64 a, .int .i64 n] [] (fun u S' => S' = [] ∧ u = .int .i64 a) := by
  subst h0
  have := t143 a 0
  rwa [seqAdd_id h] at this
end Go.Proofs.Qxb6500351aGreat
