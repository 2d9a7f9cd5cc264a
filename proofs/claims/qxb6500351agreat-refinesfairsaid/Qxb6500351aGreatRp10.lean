/- See over the network. -/
import Derived.Test.Qxb6500351aGreatMd24
import Derived.Test.Qxb6500351aGreatW67
import Derived.Test.Qxb6500351aGreatW77
import Derived.Test.Qxb6500351aGreatW78
import Derived.Test.Qxb6500351aGreatRp8
set_option linter.unusedVariables false
namespace Go.Proofs.Qxb6500351aGreat
open Go.Eng
theorem i33 {b : Nat} {l : List Ned} {dl : Nat → Int} {g : List Chunk} {h : Nat} {en : En} {ci : Ci} {l9 : List Ned} (hn : NtG b l dl g) (hK : NOk l) (h64 : l.length ≤ 59000000000) (hen : en.Ok) (hci : 0 ≤ ci.avail ∧ ci.avail ≤ 1000) (h3 : h < 3) (bc : Nat) (hs : nSee l dl (h : Int) en ci = some l9) :
    Trip Tryz.prog 33 #[.pointer (some ⟨b, 0, none⟩), .int .i64 (h : Int), .agg (Si.mk en (.pointer (some ⟨bc, 0, none⟩))).enc] [g, [(bc, .cells ci.enc 95 (0, 0))]] (fun u S' => ∃ g', u = .bool true ∧ NtG b l9 dl g' ∧ S' = [g', [(bc, .cells ci.enc 95 (0, 0))]]) := by
  obtain ⟨v, gv, gd, hw, rfl⟩ := hn
  refine (t33 b v l gv gd dl h en bc ci l9 hw hK.1 h64 (fun y hy => (hK.2 y hy).1) (fun y hy => (hK.2 y hy).2) hci hen hs).over (F := []) (by simp) ?_
  rintro u A' ⟨v', gv', gd', h1, h2, rfl⟩
  exact ⟨_, ⟨_, h1, ⟨v', gv', gd', h2, rfl⟩, rfl⟩, by simp⟩
end Go.Proofs.Qxb6500351aGreat
