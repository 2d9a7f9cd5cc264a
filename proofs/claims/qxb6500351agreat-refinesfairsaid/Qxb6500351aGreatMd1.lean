/- THE PLAIN FUNCTIONS that the program's lower functions compute. No Go in sight. -/
import Derived.Test.Qxb6500351aGreatTy
import Derived.Test.Qxb6500351aGreatEngW
set_option linter.unusedVariables false
namespace Go.Proofs.Qxb6500351aGreat
open Go.Eng

def seqAdd (a n : Int) : Int := (a + n) % 256
def seqDiff (a b : Int) : Int := (a - b + 128) % 256 - 128
def window (w : Int) : Int := if w < 0 then 0 else if 255 < w then 255 else w
def least (m h : Int) : Int := max 0 (min m h)

theorem tmB (a : Int) : -256 < a.tmod 256 ∧ a.tmod 256 < 256 := by
  rcases Int.lt_or_le a 0 with h | h
  · have := Int.neg_tmod (a := -a) (b := 256)
    rw [Int.neg_neg, Int.tmod_eq_emod_of_nonneg (by omega : 0 ≤ -a)] at this
    omega
  · rw [Int.tmod_eq_emod_of_nonneg h]; omega
theorem tmC (a : Int) : (a.tmod 256 - a) % 256 = 0 := by
  rcases Int.lt_or_le a 0 with h | h
  · have := Int.neg_tmod (a := -a) (b := 256)
    rw [Int.neg_neg, Int.tmod_eq_emod_of_nonneg (by omega : 0 ≤ -a)] at this
    omega
  · rw [Int.tmod_eq_emod_of_nonneg h]; omega
theorem seqAdd_eq (a n : Int) : ((a.tmod 256 + n.tmod 256).tmod 256 + 256) % 256 = seqAdd a n := by
  have h1 := tmC a; have h2 := tmC n; have h3 := tmC (a.tmod 256 + n.tmod 256)
  unfold seqAdd; omega
theorem seqDiff_ge {a b : Int} (h : 128 ≤ seqAdd a (-b.tmod 256)) : seqAdd a (-b.tmod 256) - 256 = seqDiff a b := by
  have := tmC b; unfold seqAdd at *; unfold seqDiff; omega
theorem seqDiff_lt {a b : Int} (h : seqAdd a (-b.tmod 256) < 128) : seqAdd a (-b.tmod 256) = seqDiff a b := by
  have := tmC b; unfold seqAdd at *; unfold seqDiff; omega
theorem seqAdd_b (a n : Int) : 0 ≤ seqAdd a n ∧ seqAdd a n < 256 := by unfold seqAdd; omega
theorem seqDiff_b (a n : Int) : -128 ≤ seqDiff a n ∧ seqDiff a n < 128 := by unfold seqDiff; omega
/-! ### The send buffer -/
structure Sb.Ok (s : Sb) : Prop where
  head0 : 0 ≤ s.head
  head1 : s.head < 16
  sent0 : 0 ≤ s.sent
  sentc : s.sent ≤ s.count
  count : s.count ≤ 16
  una0 : 0 ≤ s.una
  una1 : s.una < 256
  ringB : ∀ i, 0 ≤ s.ring i ∧ s.ring i < 256
def Sb.reset (s : Sb) (q : Int) : Sb := { s with una := seqAdd q 0, head := 0, count := 0, sent := 0 }
def Sb.nxt (s : Sb) : Int := (s.una + s.sent) % 256
def Sb.unsent (s : Sb) : Int := s.count - s.sent
def Sb.ackN (s : Sb) (a : Int) : Int := if seqDiff a s.una ≤ 0 ∨ s.sent < seqDiff a s.una then 0 else seqDiff a s.una
def Sb.ack (s : Sb) (a : Int) : Sb :=
  if seqDiff a s.una ≤ 0 ∨ s.sent < seqDiff a s.una then s else
  { s with head := (s.head + seqDiff a s.una) % 16, count := s.count - seqDiff a s.una, sent := s.sent - seqDiff a s.una, una := (s.una + seqDiff a s.una % 256) % 256 }

theorem Sb.ok_reset {s : Sb} (h : s.Ok) (q : Int) : (s.reset q).Ok := by
  have := seqAdd_b q 0
  refine ⟨?_, ?_, ?_, ?_, ?_, ?_, ?_, h.ringB⟩ <;> simp only [Sb.reset] <;> omega
theorem Sb.ok_ack {s : Sb} (h : s.Ok) (a : Int) : (s.ack a).Ok := by
  have h0 := h
  obtain ⟨h1, h2, h3, h4, h5, h6, h7, h8⟩ := h
  unfold Sb.ack
  split
  · exact h0
  · rename_i hc
    have hb := seqDiff_b a s.una
    simp only [not_or, Int.not_le, Int.not_lt] at hc
    refine ⟨?_, ?_, ?_, ?_, ?_, ?_, ?_, h8⟩ <;> simp only <;> omega
/-! ### The receive buffer -/
/-- the place of the number nxt + d -/
def Rb.place (r : Rb) (d : Int) : Nat := ((r.nxt + d) % 16).toNat
structure Rb.Ok (r : Rb) : Prop where
  nxt0 : 0 ≤ r.nxt
  nxt1 : r.nxt < 256
  av0 : 0 ≤ r.avail
  av1 : r.avail ≤ 16
  ah0 : 0 ≤ r.ahead
  ah1 : r.ahead < 65536
  ringB : ∀ i, 0 ≤ r.ring i ∧ r.ring i < 256
  clr : ∀ k : Nat, 1 ≤ k → (k : Int) ≤ r.avail → r.ahead.toNat.testBit (r.place (-k)) = false
end Go.Proofs.Qxb6500351aGreat
