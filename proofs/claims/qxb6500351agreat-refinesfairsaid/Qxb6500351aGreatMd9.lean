/- THE PLAIN FUNCTIONS of the table of sockets. No Go in sight. -/
import Derived.Test.Qxb6500351aGreatMd8
set_option linter.unusedVariables false
set_option linter.unusedSimpArgs false
namespace Go.Proofs.Qxb6500351aGreat
open Go.Eng
def hashF (a b c : Int) : Nat := ((a.toNat ^^^ b.toNat) ^^^ c.toNat) &&& 3
theorem hashF_lt (a b c : Int) : hashF a b c < 4 := by
  have : hashF a b c ≤ 3 := Nat.and_le_right
  omega
theorem hash_x1 {a b : Int} (h1 : 0 ≤ a ∧ a < 256) (h2 : 0 ≤ b ∧ b < 256) : bXor .i64 a b = ((a.toNat ^^^ b.toNat : Nat) : Int) := bXor_nat (f64 (by omega)) (f64 (by omega))
theorem hash_x2 {a b c : Int} (h1 : 0 ≤ a ∧ a < 256) (h2 : 0 ≤ b ∧ b < 256) (h3 : 0 ≤ c ∧ c < 256) : bXor .i64 ((a.toNat ^^^ b.toNat : Nat) : Int) c = (((a.toNat ^^^ b.toNat) ^^^ c.toNat : Nat) : Int) := by
  have : a.toNat ^^^ b.toNat < 2 ^ 8 := Nat.xor_lt_two_pow (by omega) (by omega)
  rw [bXor_nat (f64 (by omega)) (f64 (by omega)), Int.toNat_natCast]
theorem hash_a {a b c : Int} (h1 : 0 ≤ a ∧ a < 256) (h2 : 0 ≤ b ∧ b < 256) (h3 : 0 ≤ c ∧ c < 256) : bAnd .i64 (((a.toNat ^^^ b.toNat) ^^^ c.toNat : Nat) : Int) 3 = (hashF a b c : Int) := by
  have : a.toNat ^^^ b.toNat < 2 ^ 8 := Nat.xor_lt_two_pow (by omega) (by omega)
  have h4 : (a.toNat ^^^ b.toNat) ^^^ c.toNat < 2 ^ 8 := Nat.xor_lt_two_pow this (by omega)
  rw [bAnd_nat (f64 (by omega)) (f64 (by omega)), Int.toNat_natCast]
  rfl
def nextEph (p : Int) : Int := if 15 ≤ p then 8 else p + 1
def wrapF (k : Int) : Int := if 2 ≤ k then k - 2 else k
/-- the first place from i on (f places) with P, or -1 -/
def firstI (P : Nat → Bool) : Nat → Nat → Int
  | 0, _ => -1
  | f + 1, i => if P i = true then (i : Int) else firstI P f (i + 1)
theorem firstI_hit {P : Nat → Bool} {n k : Nat} (hk : k < n) (h : P k = true) : firstI P (n - k) k = k := by
  obtain ⟨f, hf⟩ : ∃ f, n - k = f + 1 := ⟨n - k - 1, by omega⟩
  rw [hf]; simp only [firstI]; rw [if_pos h]
theorem firstI_next {P : Nat → Bool} {n k : Nat} (hk : k < n) (h : P k = false) : firstI P (n - k) k = firstI P (n - (k + 1)) (k + 1) := by
  obtain ⟨f, hf⟩ : ∃ f, n - k = f + 1 := ⟨n - k - 1, by omega⟩
  have h2 : n - (k + 1) = f := by omega
  rw [hf, h2]; simp only [firstI]; rw [if_neg (by rw [h]; decide)]
theorem firstI_no {P : Nat → Bool} {n k : Nat} (hk : n ≤ k) : firstI P (n - k) k = -1 := by
  have : n - k = 0 := by omega
  rw [this]; rfl
def Tb.isSd (t : Tb) (sd : Int) (i : Nat) : Bool := (t.rows i).used && decide ((t.rows i).e.sd = sd)
def Tb.find (t : Tb) (sd : Int) : Int := firstI (t.isSd sd) 6 0
def Tb.lrow (t : Tb) (p : Int) : Int := if p < 1 ∨ 8 ≤ p then -1 else t.port p.toNat
def Tb.freeB (t : Tb) (i : Nat) : Bool := decide (t.blocks.toNat &&& 2 ^ i = 0)
def Tb.low (t : Tb) : Int := firstI t.freeB 4 0
theorem low_and {h : Int} {i : Nat} (hb : 0 ≤ h ∧ h < 256) (hi : i < 4) : bAnd .u8 h ((2 ^ (i : Int).toNat : Nat) : Int) = ((h.toNat &&& 2 ^ i : Nat) : Int) := by
  have h1 : (2 ^ i) < 256 := Nat.lt_of_lt_of_le (Nat.pow_lt_pow_right (by omega) hi) (by decide)
  rw [Int.toNat_natCast, bAnd_nat (f8 hb) (f8 ⟨Int.natCast_nonneg _, Int.ofNat_lt.2 h1⟩), Int.toNat_natCast]
end Go.Proofs.Qxb6500351aGreat
