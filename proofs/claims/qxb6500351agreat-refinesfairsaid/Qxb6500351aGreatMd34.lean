/- For the walks of RefinesWork: the net's Settled; a script's kind. -/
import Derived.Test.Qxb6500351aGreatW101
import Derived.Test.Qxb6500351aGreatMd26
set_option linter.unusedVariables false
set_option linter.unusedSimpArgs false
namespace Go.Proofs.Qxb6500351aGreat
open Go.Eng
theorem i17 {b : Nat} {l : List Ned} {dl : Nat → Int} {g : List Chunk} (h : NtG b l dl g) (hp : ∀ x ∈ l, x.peer < l.length) (hs : ∀ x ∈ l, x.sent.length ≤ 1000000000000 ∧ x.rcvd.length ≤ 1000000000000) : Trip Tryz.prog 17 #[.pointer (some ⟨b, 0, none⟩)] [g] (fun u S' => u = .bool (nSettledB l) ∧ S' = [g]) := by
  obtain ⟨v, gv, gd, hw, rfl⟩ := h
  refine (t17 b v l gv gd dl hw hp hs).over (F := gd) (by simp) ?_
  rintro u A' ⟨h1, rfl⟩
  exact ⟨_, ⟨h1, rfl⟩, by simp⟩
/-- the first cell of an op -/
theorem opn_kd {cs : Array Value} {a : Nat} {kd oa ob oc : Int} {os ot : ByteArray} (h : cs.extract a (a + 6) = (Opn.mk kd oa ob oc os ot).enc) (h2 : a + 6 ≤ cs.size) : cs[a]? = some (.int .i64 kd) := by
  have h3 : (cs.extract a (a + 6))[0]? = some (.int .i64 kd) := by rw [h]; rfl
  rw [Array.getElem?_extract] at h3
  have := (by simpa using h3 : 0 < min (a + 6) cs.size - a ∧ cs[a]? = some (.int .i64 kd))
  exact this.2
end Go.Proofs.Qxb6500351aGreat
