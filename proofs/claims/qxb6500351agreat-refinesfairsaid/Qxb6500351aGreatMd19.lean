/- The law's comparisons. -/
import Derived.Test.Qxb6500351aGreatRp6
set_option linter.unusedVariables false
set_option linter.unusedSimpArgs false
namespace Go.Proofs.Qxb6500351aGreat
open Go.Eng
def sameEn (x y : En) : Bool := decide (x.sd = y.sd ∧ x.kind = y.kind ∧ x.slot = y.slot ∧ x.parent = y.parent ∧ x.ready = y.ready ∧ x.lPort = y.lPort ∧ x.rHost = y.rHost ∧ x.rPort = y.rPort)
theorem sameEn_self (x : En) : sameEn x x = true := by unfold sameEn; simp
def sameCi (x y : Ci) : Bool := decide (x.state = y.state ∧ x.why = y.why ∧ x.weClosed = y.weClosed ∧ x.finSent = y.finSent ∧ x.finAcked = y.finAcked ∧ x.peerFin = y.peerFin ∧ x.sndUna = y.sndUna ∧ x.sndNxt = y.sndNxt ∧ x.rcvNxt = y.rcvNxt ∧ x.peerWnd = y.peerWnd ∧ x.queued = y.queued ∧ x.unsent = y.unsent ∧ x.avail = y.avail ∧ x.held = y.held ∧ x.timer = y.timer ∧ x.retries = y.retries ∧ x.credit = y.credit ∧ x.quietLeft = y.quietLeft)
theorem sameCi_self (x : Ci) : sameCi x x = true := by unfold sameCi; simp
theorem byte_at {l : List Int} (h : Bytes l) (k : Nat) : 0 ≤ l.getD k 0 ∧ l.getD k 0 < 256 := by
  rw [List.getD_eq_getElem?_getD]
  cases h3 : l[k]? with
  | none => simp
  | some y => have := h y (List.mem_of_getElem? h3); simp only [Option.getD_some]; omega
theorem scr_bit {l : List Int} {k : Nat} (h : Bytes l) : bXor .u8 (l.getD k 0) 255 = (((l.getD k 0).toNat ^^^ (255 : Int).toNat : Nat) : Int) := bXor_nat (f8 (byte_at h k)) (f8 (by omega))
theorem scr_b {l : List Int} {k i : Nat} (h : Bytes l) : Bytes (l.set i (((l.getD k 0).toNat ^^^ (255 : Int).toNat : Nat) : Int)) := by
  intro x hx
  rcases List.mem_or_eq_of_mem_set hx with h1 | h1
  · exact h x h1
  · subst h1
    have h2 := byte_at h k
    have := xor_lt8 (x := (l.getD k 0).toNat) (y := (255 : Int).toNat) (by omega) (by decide)
    omega
def tok (j : Nat) : List Int := [mark j 0, mark j 1, mark j 2, mark j 3]
theorem tok_step {j k : Nat} {l : List Int} (hk : k < 4) (h : l = (tok j).take k ++ List.replicate (4 - k) 0) : l.set k (mark j k) = (tok j).take (k + 1) ++ List.replicate (4 - (k + 1)) 0 := by
  have hc : k = 0 ∨ k = 1 ∨ k = 2 ∨ k = 3 := by omega
  rcases hc with rfl | rfl | rfl | rfl <;> subst h <;> rfl
end Go.Proofs.Qxb6500351aGreat
