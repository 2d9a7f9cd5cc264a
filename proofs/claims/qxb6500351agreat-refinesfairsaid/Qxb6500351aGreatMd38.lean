/- For the walk of Foul. -/
import Derived.Test.Qxb6500351aGreatMd37
import Derived.Test.Qxb6500351aGreatW73
import Derived.Test.Qxb6500351aGreatW70
set_option linter.unusedVariables false
set_option linter.unusedSimpArgs false
namespace Go.Proofs.Qxb6500351aGreat
open Go.Eng
theorem i56v (A : WA) (q : Bool) (x : Wrld) (V : WV) (gh gs : List Chunk) (T : Int) (h0 : 0 ≤ T) (h3 : T < 3) (p : Int) (hh : HsG x.H A.hv A.bv gh) (ok : ∀ i, i < 3 → (x.H i).Ok ∧ InfoOk (x.H i)) (hs : SnG x.seen V.seen gs) : Trip Tryz.prog 56 #[.pointer (some ⟨A.b, 0, none⟩), .int .i64 T, .int .i64 p] [[(A.b, .cells (A.wd q x V).enc 53 (0, 0))], gh, gs] (fun u S' => u = .bool (x.listensB T.toNat p) ∧ S' = [[(A.b, .cells (A.wd q x V).enc 53 (0, 0))], gh, gs]) := by
  obtain ⟨c, rfl⟩ : ∃ c : Nat, T = (c : Int) := ⟨T.toNat, by omega⟩
  rw [Int.toNat_natCast]
  exact t56 A q x V gh gs c (by omega) p hh ok hs
end Go.Proofs.Qxb6500351aGreat
