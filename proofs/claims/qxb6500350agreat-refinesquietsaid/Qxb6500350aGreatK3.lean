/- PLAIN LAW: BITS, THE MAP OF USED BLOCKS. -/
import Derived.Test.Qxb6500350aGreatK2
import Derived.Test.Qxb6500350aGreatT259
import Derived.Test.Qxb6500350aGreatT242
set_option linter.unusedVariables false
set_option linter.unusedSimpArgs false
set_option maxHeartbeats 1000000
namespace Go.Proofs.Qxb6500350aGreat
open Go.Eng Go
theorem bv_nat {p : Int} (h0 : 0 ≤ p) (h1 : p < 18446744073709551616) : (BitVec.ofInt 64 p).toNat = p.toNat := by
  rw [BitVec.toNat_ofInt]; omega
theorem bAnd_u {p q : Int} (h0 : 0 ≤ p) (h1 : p < 18446744073709551616) (h2 : 0 ≤ q) (h3 : q < 18446744073709551616) : bAnd .u64 p q = ((p.toNat &&& q.toNat : Nat) : Int) := by
  unfold bAnd
  show IntKind.u64.wrap (((BitVec.ofInt 64 p) &&& (BitVec.ofInt 64 q)).toNat : Int) = _
  rw [BitVec.toNat_and, bv_nat h0 h1, bv_nat h2 h3, wu_eq]
  have : p.toNat &&& q.toNat ≤ p.toNat := Nat.and_le_left
  omega
theorem bAnd_i {p q : Int} (h0 : 0 ≤ p) (h1 : p < 9223372036854775808) (h2 : 0 ≤ q) (h3 : q < 9223372036854775808) : bAnd .i64 p q = ((p.toNat &&& q.toNat : Nat) : Int) := by
  unfold bAnd
  show IntKind.i64.wrap (((BitVec.ofInt 64 p) &&& (BitVec.ofInt 64 q)).toNat : Int) = _
  rw [BitVec.toNat_and, bv_nat h0 (by omega), bv_nat h2 (by omega)]
  have : p.toNat &&& q.toNat ≤ p.toNat := Nat.and_le_left
  exact wi_of (by omega) (by omega)
theorem bAnd_w {p q : Int} (h0 : 0 ≤ p) (h1 : p < 4294967296) (h2 : 0 ≤ q) (h3 : q < 4294967296) : bAnd .u32 p q = ((p.toNat &&& q.toNat : Nat) : Int) := by
  unfold bAnd
  show IntKind.u32.wrap (((BitVec.ofInt 32 p) &&& (BitVec.ofInt 32 q)).toNat : Int) = _
  have e1 : (BitVec.ofInt 32 p).toNat = p.toNat := by rw [BitVec.toNat_ofInt]; omega
  have e2 : (BitVec.ofInt 32 q).toNat = q.toNat := by rw [BitVec.toNat_ofInt]; omega
  rw [BitVec.toNat_and, e1, e2, ww_eq]
  have : p.toNat &&& q.toNat ≤ p.toNat := Nat.and_le_left
  omega
theorem bOr_u {p q : Int} (h0 : 0 ≤ p) (h1 : p < 18446744073709551616) (h2 : 0 ≤ q) (h3 : q < 18446744073709551616) : bOr .u64 p q = ((p.toNat ||| q.toNat : Nat) : Int) := by
  unfold bOr
  show IntKind.u64.wrap (((BitVec.ofInt 64 p) ||| (BitVec.ofInt 64 q)).toNat : Int) = _
  have hlt : ((BitVec.ofInt 64 p) ||| (BitVec.ofInt 64 q)).toNat < 18446744073709551616 := BitVec.isLt _
  rw [wu_eq, Int.emod_eq_of_lt (by omega) (by omega), BitVec.toNat_or, bv_nat h0 h1, bv_nat h2 h3]
theorem bAndNot_u {p q : Int} (h0 : 0 ≤ p) (h1 : p < 18446744073709551616) (h2 : 0 ≤ q) (h3 : q < 18446744073709551616) :
    0 ≤ bAndNot .u64 p q ∧ bAndNot .u64 p q < 18446744073709551616 ∧ ∀ j, j < 64 → (bAndNot .u64 p q).toNat.testBit j = (p.toNat.testBit j && !q.toNat.testBit j) := by
  unfold bAndNot
  show 0 ≤ IntKind.u64.wrap (((BitVec.ofInt 64 p) &&& ~~~(BitVec.ofInt 64 q)).toNat : Int) ∧ _
  have hlt : ((BitVec.ofInt 64 p) &&& ~~~(BitVec.ofInt 64 q)).toNat < 18446744073709551616 := BitVec.isLt _
  have he : IntKind.u64.wrap (((BitVec.ofInt 64 p) &&& ~~~(BitVec.ofInt 64 q)).toNat : Int) = (((BitVec.ofInt 64 p) &&& ~~~(BitVec.ofInt 64 q)).toNat : Int) := by
    rw [wu_eq]; omega
  refine ⟨by omega, ?_, fun j hj => ?_⟩
  · show IntKind.u64.wrap (((BitVec.ofInt 64 p) &&& ~~~(BitVec.ofInt 64 q)).toNat : Int) < _
    omega
  · show (IntKind.u64.wrap (((BitVec.ofInt 64 p) &&& ~~~(BitVec.ofInt 64 q)).toNat : Int)).toNat.testBit j = _
    rw [he, Int.toNat_natCast]
    have h4 := BitVec.getLsbD_and (i := j) (x := BitVec.ofInt 64 p) (y := ~~~(BitVec.ofInt 64 q))
    have h5 := BitVec.getLsbD_not (i := j) (x := BitVec.ofInt 64 q)
    simp only [BitVec.getLsbD] at h4 h5
    rw [h4, h5, bv_nat h0 h1, bv_nat h2 h3]
    simp [hj]
theorem and63 (b : Nat) : b &&& 63 = b % 64 := Nat.and_two_pow_sub_one_eq_mod b 6
theorem and7 (b : Nat) : b &&& 7 = b % 8 := Nat.and_two_pow_sub_one_eq_mod b 3

theorem _root_.Nat.and_two_pow_eq (x i : Nat) : x &&& 2 ^ i = (x.testBit i).toNat * 2 ^ i := by
  apply Nat.eq_of_testBit_eq
  intro j
  rw [Nat.testBit_and, Nat.testBit_two_pow]
  by_cases hj : i = j
  · subst hj
    cases x.testBit i <;> simp [Nat.testBit_two_pow]
  · simp [hj]
    cases x.testBit i <;> simp [Nat.testBit_two_pow, hj]
/-- the words u are the set U of block numbers -/
def Marks (u : Int → Int) (U : Int → Bool) : Prop := ∀ w, 0 ≤ w → w < 3 → 0 ≤ u w ∧ u w < 18446744073709551616 ∧ ∀ j : Nat, j < 64 → (u w).toNat.testBit j = U (64 * w + j)
theorem Marks.ext {u v : Int → Int} {U : Int → Bool} (h : Marks u U) (k : Marks v U) (w : Int) (h0 : 0 ≤ w) (h1 : w < 3) : u w = v w := by
  obtain ⟨a1, a2, a3⟩ := h w h0 h1
  obtain ⟨b1, b2, b3⟩ := k w h0 h1
  have : (u w).toNat = (v w).toNat := by
    apply Nat.eq_of_testBit_eq
    intro j
    by_cases hj : j < 64
    · rw [a3 j hj, b3 j hj]
    · rw [Nat.testBit_lt_two_pow (Nat.lt_of_lt_of_le (show (u w).toNat < 2 ^ 64 by omega) (Nat.pow_le_pow_right (by omega) (by omega))),
        Nat.testBit_lt_two_pow (Nat.lt_of_lt_of_le (show (v w).toNat < 2 ^ 64 by omega) (Nat.pow_le_pow_right (by omega) (by omega)))]
  omega
theorem sh_word {b : Int} (h0 : 0 ≤ b) (h1 : b < 145) : Int.fdiv b (2 ^ (min (Int.toNat 6) (IntKind.bits .i64))) = b / 64 := by
  have : (2 : Int) ^ (min (Int.toNat 6) (IntKind.bits .i64)) = 64 := by decide
  rw [this, Int.fdiv_eq_ediv_of_nonneg _ (by omega)]
theorem sh_bit {b : Int} (h0 : 0 ≤ b) (h1 : b < 145) : wu (bAnd .i64 b 63) = b % 64 := by
  rw [bAnd_i h0 (by omega) (by omega) (by omega)]
  rw [show (63 : Int).toNat = 63 from rfl, and63]
  show IntKind.u64.wrap _ = _
  rw [wu_eq]
  omega
theorem mask_nn {b : Int} : 0 ≤ ((2 ^ (b % 64).toNat : Nat) : Int) := Int.natCast_nonneg _
theorem mask_lt {b : Int} : ((2 ^ (b % 64).toNat : Nat) : Int) < 18446744073709551616 := by
  have h2 : (b % 64).toNat < 64 := by omega
  have h4 : (2 : Nat) ^ (b % 64).toNat < 2 ^ 64 := Nat.pow_lt_pow_right (by omega) h2
  omega
theorem sh_mask {b : Int} (h0 : 0 ≤ b) (h1 : b < 145) : wu (1 * 2 ^ (min (Int.toNat (b % 64)) (IntKind.bits .u64))) = ((2 ^ (b % 64).toNat : Nat) : Int) := by
  have h2 : (b % 64).toNat < 64 := by omega
  have h3 : min (Int.toNat (b % 64)) (IntKind.bits .u64) = (b % 64).toNat := by
    show min (b % 64).toNat 64 = _
    omega
  rw [h3]
  show IntKind.u64.wrap _ = _
  rw [wu_eq]
  have h4 : (2 : Nat) ^ (b % 64).toNat < 2 ^ 64 := Nat.pow_lt_pow_right (by omega) h2
  have h5 : (1 * 2 ^ (b % 64).toNat : Int) = ((2 ^ (b % 64).toNat : Nat) : Int) := by simp
  rw [h5]
  exact Int.emod_eq_of_lt mask_nn mask_lt
theorem isUsed_ok {n : Nat} {s : Store} {U : Int → Bool} {b : Int} (h : Marks s.used U) (h0 : 0 ≤ b) (h1 : b < 145) : m259 n s b = some (U b) := by
  refine Ok.eq ?_
  unfold m259
  rw [sh_word h0 h1, sh_bit h0 h1, sh_mask h0 h1]
  refine Ok_ck (by omega) (by omega) (Ok_ckN (by omega) (Ok.some' ?_))
  obtain ⟨a1, a2, a3⟩ := h (b / 64) (by omega) (by omega)
  rw [bAnd_u a1 a2 mask_nn mask_lt]
  have h4 := a3 (b % 64).toNat (by omega)
  rw [show 64 * (b / 64) + ((b % 64).toNat : Int) = b by omega] at h4
  rw [← h4, Int.toNat_natCast]
  rw [Nat.and_two_pow_eq]
  cases (s.used (b / 64)).toNat.testBit (b % 64).toNat with
  | false => simp
  | true =>
    simp only [Bool.toNat_true, Nat.one_mul, decide_eq_true_eq]
    have : 0 < 2 ^ (b % 64).toNat := Nat.two_pow_pos _
    omega
def upd {α : Type} (U : Int → α) (b : Int) (v : α) : Int → α := fun c => if c = b then v else U c
theorem mark_ok' {n : Nat} {s : Store} {U : Int → Bool} {b : Int} {on : Bool} (h : Marks s.used U) (h0 : 0 ≤ b) (h1 : b < 145) : ∃ u, m242 n s b on = some { s with used := u } ∧ Marks u (upd U b on) := by
  obtain ⟨a1, a2, a3⟩ := h (b / 64) (by omega) (by omega)
  have hm := mask_lt (b := b)
  have hb : ∀ j : Nat, (2 ^ (b % 64).toNat).testBit j = decide ((b % 64).toNat = j) := fun j => Nat.testBit_two_pow
  have key : ∀ x : Int, 0 ≤ x → x < 18446744073709551616 → (∀ j : Nat, j < 64 → x.toNat.testBit j = if (b % 64).toNat = j then on else (s.used (b / 64)).toNat.testBit j) → Marks (upI s.used (b / 64) x) (upd U b on) := by
    intro x h2 h3 h4 w h5 h6
    unfold upI
    by_cases hw : w = b / 64
    · rw [if_pos hw]
      refine ⟨h2, h3, fun j hj => ?_⟩
      rw [h4 j hj, a3 j hj, hw]
      unfold upd
      by_cases hj2 : (b % 64).toNat = j
      · rw [if_pos hj2, if_pos (by omega)]
      · rw [if_neg hj2, if_neg (by omega)]
    · rw [if_neg hw]
      obtain ⟨c1, c2, c3⟩ := h w h5 h6
      refine ⟨c1, c2, fun j hj => ?_⟩
      rw [c3 j hj]
      unfold upd
      rw [if_neg (by omega)]
  unfold m242
  rw [sh_word h0 h1, sh_bit h0 h1, sh_mask h0 h1]
  cases on with
  | true =>
    refine ⟨upI s.used (b / 64) (bOr .u64 (s.used (b / 64)) ((2 ^ (b % 64).toNat : Nat) : Int)), ?_, key _ ?_ ?_ ?_⟩
    · exact Ok.eq (Ok_cond (fun _ => Ok_ck (by omega) (by omega) (Ok_ckN (by omega) (Ok_ck (by omega) (by omega) (Ok_nm (Ok.some' rfl))))) (fun h => nomatch h))
    all_goals rw [bOr_u a1 a2 mask_nn hm, Int.toNat_natCast]
    · omega
    · have : (s.used (b / 64)).toNat ||| 2 ^ (b % 64).toNat < 2 ^ 64 := Nat.or_lt_two_pow (by omega) (by omega)
      omega
    · intro j hj
      rw [Int.toNat_natCast, Nat.testBit_or, hb]
      by_cases hj2 : (b % 64).toNat = j <;> simp [hj2]
  | false =>
    obtain ⟨c1, c2, c3⟩ := bAndNot_u a1 a2 mask_nn hm
    refine ⟨upI s.used (b / 64) (bAndNot .u64 (s.used (b / 64)) ((2 ^ (b % 64).toNat : Nat) : Int)), ?_, key _ c1 c2 ?_⟩
    · exact Ok.eq (Ok_cond (fun h => nomatch h) (fun _ => Ok_ck (by omega) (by omega) (Ok_ckN (by omega) (Ok_ck (by omega) (by omega) (Ok_nm (Ok.some' rfl))))))
    · intro j hj
      rw [c3 j hj, Int.toNat_natCast, hb]
      by_cases hj2 : (b % 64).toNat = j <;> simp [hj2]
end Go.Proofs.Qxb6500350aGreat
