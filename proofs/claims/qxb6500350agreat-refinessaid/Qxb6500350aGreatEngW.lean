/- THE ENGINE, part 9: the bit operations, on numbers that lie in range, are Nat's. -/
import Derived.Test.Qxb6500350aGreatEngB
set_option linter.unusedVariables false
set_option linter.unusedSimpArgs false
namespace Go.Eng
theorem ofInt_nat (b : Nat) (p : Nat) : BitVec.ofInt b (p : Int) = BitVec.ofNat b p := by
  apply BitVec.eq_of_toNat_eq
  simp [BitVec.toNat_ofInt]
theorem wrap_nat (k : IntKind) {n : Nat} (h : n < 2 ^ k.bits) (h2 : k.signed = true → n < 2 ^ (k.bits - 1)) : k.wrap (n : Int) = n := by
  cases k <;> simp [IntKind.wrap, IntKind.bits, IntKind.signed] at * <;> omega
/-- p's bound for the kind k: below half the room if k is signed -/
def Fits (k : IntKind) (p : Int) : Prop := 0 ≤ p ∧ p.toNat < 2 ^ k.bits ∧ (k.signed = true → p.toNat < 2 ^ (k.bits - 1))
theorem nat_of {p : Int} (h : 0 ≤ p) : ((p.toNat : Nat) : Int) = p := by omega
theorem bAnd_nat {k : IntKind} {p q : Int} (hp : Fits k p) (hq : Fits k q) : bAnd k p q = ((p.toNat &&& q.toNat : Nat) : Int) := by
  obtain ⟨h1, h2, h3⟩ := hp
  obtain ⟨g1, g2, g3⟩ := hq
  have e1 := nat_of h1
  have e2 := nat_of g1
  unfold bAnd
  conv => lhs; rw [← e1, ← e2]
  rw [ofInt_nat, ofInt_nat, BitVec.toNat_and, BitVec.toNat_ofNat, BitVec.toNat_ofNat, Nat.mod_eq_of_lt h2, Nat.mod_eq_of_lt g2]
  exact wrap_nat k (Nat.and_lt_two_pow _ g2) (fun hs => Nat.and_lt_two_pow _ (g3 hs))
theorem bOr_nat {k : IntKind} {p q : Int} (hp : Fits k p) (hq : Fits k q) : bOr k p q = ((p.toNat ||| q.toNat : Nat) : Int) := by
  obtain ⟨h1, h2, h3⟩ := hp
  obtain ⟨g1, g2, g3⟩ := hq
  have e1 := nat_of h1
  have e2 := nat_of g1
  unfold bOr
  conv => lhs; rw [← e1, ← e2]
  rw [ofInt_nat, ofInt_nat, BitVec.toNat_or, BitVec.toNat_ofNat, BitVec.toNat_ofNat, Nat.mod_eq_of_lt h2, Nat.mod_eq_of_lt g2]
  exact wrap_nat k (Nat.or_lt_two_pow h2 g2) (fun hs => Nat.or_lt_two_pow (h3 hs) (g3 hs))
theorem bXor_nat {k : IntKind} {p q : Int} (hp : Fits k p) (hq : Fits k q) : bXor k p q = ((p.toNat ^^^ q.toNat : Nat) : Int) := by
  obtain ⟨h1, h2, h3⟩ := hp
  obtain ⟨g1, g2, g3⟩ := hq
  have e1 := nat_of h1
  have e2 := nat_of g1
  unfold bXor
  conv => lhs; rw [← e1, ← e2]
  rw [ofInt_nat, ofInt_nat, BitVec.toNat_xor, BitVec.toNat_ofNat, BitVec.toNat_ofNat, Nat.mod_eq_of_lt h2, Nat.mod_eq_of_lt g2]
  exact wrap_nat k (Nat.xor_lt_two_pow h2 g2) (fun hs => Nat.xor_lt_two_pow (h3 hs) (g3 hs))
/-- clearing: the bits of p that q has not -/
def clr (p q : Nat) : Nat := p ^^^ (p &&& q)
theorem clr_testBit (p q i : Nat) : (clr p q).testBit i = (p.testBit i && !q.testBit i) := by
  unfold clr
  rw [Nat.testBit_xor, Nat.testBit_and]
  cases p.testBit i <;> cases q.testBit i <;> rfl
theorem clr_le (p q : Nat) : clr p q ≤ p := by
  have h : clr p q &&& p = clr p q := by
    apply Nat.eq_of_testBit_eq; intro i
    rw [Nat.testBit_and, clr_testBit]
    cases p.testBit i <;> cases q.testBit i <;> rfl
  rw [← h]; exact Nat.and_le_right
theorem bAndNot_nat {k : IntKind} {p q : Int} (hp : Fits k p) (hq : Fits k q) : bAndNot k p q = ((clr p.toNat q.toNat : Nat) : Int) := by
  obtain ⟨h1, h2, h3⟩ := hp
  obtain ⟨g1, g2, g3⟩ := hq
  have e1 := nat_of h1
  have e2 := nat_of g1
  unfold bAndNot
  conv => lhs; rw [← e1, ← e2]
  have h4 : (BitVec.ofInt k.bits (p.toNat : Int) &&& ~~~BitVec.ofInt k.bits (q.toNat : Int)).toNat = clr p.toNat q.toNat := by
    apply Nat.eq_of_testBit_eq; intro i
    rw [ofInt_nat, ofInt_nat, clr_testBit, BitVec.testBit_toNat, BitVec.getLsbD_and, BitVec.getLsbD_not, BitVec.getLsbD_ofNat, BitVec.getLsbD_ofNat]
    by_cases hi : i < k.bits
    · simp [hi]
    · have : p.toNat.testBit i = false := Nat.testBit_lt_two_pow (Nat.lt_of_lt_of_le h2 (Nat.pow_le_pow_right (by omega) (by omega)))
      simp [hi, this]
  rw [h4]
  have := clr_le p.toNat q.toNat
  exact wrap_nat k (by omega) (fun hs => by have := h3 hs; omega)
theorem nand_zero (a j : Nat) : (a &&& 2 ^ j = 0) ↔ a.testBit j = false := by
  constructor
  · intro h
    have h1 := congrArg (fun x => x.testBit j) h
    simpa [Nat.testBit_and, Nat.testBit_two_pow_self] using h1
  · intro h
    apply Nat.eq_of_testBit_eq; intro i
    rw [Nat.testBit_and, Nat.testBit_two_pow]
    by_cases hi : j = i
    · subst hi; simp [h]
    · simp [hi]
theorem f16 {p : Int} (h : 0 ≤ p ∧ p < 65536) : Fits .u16 p := ⟨h.1, by simp [IntKind.bits]; omega, by simp [IntKind.signed]⟩
theorem f8 {p : Int} (h : 0 ≤ p ∧ p < 256) : Fits .u8 p := ⟨h.1, by simp [IntKind.bits]; omega, by simp [IntKind.signed]⟩
theorem f64 {p : Int} (h : 0 ≤ p ∧ p < 9223372036854775808) : Fits .i64 p := ⟨h.1, by simp [IntKind.bits]; omega, by simp [IntKind.bits]; omega⟩
theorem f64u {p : Int} (h : 0 ≤ p ∧ p < 18446744073709551616) : Fits .u64 p := ⟨h.1, by simp [IntKind.bits]; omega, by simp [IntKind.signed]⟩
/-- one shifted left -/
theorem shl_one {k : IntKind} {q : Int} {n : Nat} (hq : q = (n : Int)) (hn : n < k.bits) (hs : k.signed = true → n < k.bits - 1) : k.wrap (1 * 2 ^ (min q.toNat k.bits)) = ((2 ^ n : Nat) : Int) := by
  subst hq
  have h1 : min ((n : Int)).toNat k.bits = n := by simp; omega
  rw [h1, Int.one_mul]
  have h2 : ((2 : Int) ^ n) = ((2 ^ n : Nat) : Int) := by simp
  rw [h2]
  exact wrap_nat k (Nat.pow_lt_pow_right (by omega) (by omega)) (fun h => Nat.pow_lt_pow_right (by omega) (hs h))
theorem w64ui {n : Int} (h : 0 ≤ n ∧ n < 18446744073709551616) : IntKind.u64.wrap n = n := by rw [w64u]; omega
theorem f16m {n : Nat} (h : n < 16) : Fits .u16 ((2 ^ n : Nat) : Int) := f16 ⟨Int.natCast_nonneg _, by
  have := Nat.pow_lt_pow_right (a := 2) (by omega) h
  exact Int.ofNat_lt.2 this⟩
theorem two_pow_lt {n b : Nat} (h : n < b) : ((2 ^ n : Nat) : Int) < ((2 ^ b : Nat) : Int) := by
  have := Nat.pow_lt_pow_right (a := 2) (by omega) h
  omega
theorem int_eq_zero {n : Nat} : ((n : Int) = 0) ↔ n = 0 := by omega
end Go.Eng
