/- THE WORK, part 3: what a receive buffer takes at least. No Go in sight. -/
import Derived.Test.Qxb6500351aGreatLv2
import Derived.Test.Qxb6500351aGreatPl16
set_option linter.unusedVariables false
set_option linter.unusedSimpArgs false
namespace Go.Proofs.Qxb6500351aGreat
open Go.Eng
theorem Rb.set1_place (r : Rb) (d x e : Int) : (r.set1 d x).place e = r.place e := by unfold Rb.place; rw [(r.set1_same d x).1]
theorem Rb.lay_place (r : Rb) (d0 : Int) (p : List Int) (k : Nat) (e : Int) : (r.lay d0 p k).place e = r.place e := by unfold Rb.place; rw [(r.lay_same d0 p k).1]
theorem Rb.set1_mono (r : Rb) (d x : Int) {i : Nat} (h : r.ahead.toNat.testBit i = true) : (r.set1 d x).ahead.toNat.testBit i = true := by
  unfold Rb.set1
  split
  · dsimp only
    rw [Int.toNat_natCast, Rb.mark, or_testBit_two_pow, h]; rfl
  · exact h
theorem Rb.set1_bit (r : Rb) (d x : Int) : (r.set1 d x).ahead.toNat.testBit (r.place d) = true := by
  unfold Rb.set1
  split
  · dsimp only
    rw [Int.toNat_natCast, Rb.mark, or_testBit_two_pow]; simp
  · rename_i h
    cases ht : r.ahead.toNat.testBit (r.place d) with
    | true => rfl
    | false => exact absurd ((nand_zero _ _).2 ht) h
theorem Rb.lay_bits (r : Rb) (d0 : Int) (p : List Int) : ∀ (k j : Nat), j < k → 0 ≤ d0 + j → (r.lay d0 p k).ahead.toNat.testBit (r.place (d0 + j)) = true
  | 0, _, h, _ => absurd h (Nat.not_lt_zero _)
  | k + 1, j, hj, h0 => by
    have ih := Rb.lay_bits r d0 p k
    simp only [Rb.lay]
    split
    · rename_i hn
      exact ih j (by omega) h0
    · by_cases e : j = k
      · subst e
        have := (r.lay d0 p j).set1_bit (d0 + j) (p.getD j 0)
        rw [Rb.lay_place] at this
        exact this
      · exact Rb.set1_mono _ _ _ (ih j (by omega) h0)
theorem Rb.advF_avail : ∀ (f : Nat) (r : Rb), r.avail ≤ (Rb.advF f r).1.avail
  | 0, r => Int.le_refl _
  | f + 1, r => by
    simp only [Rb.advF]
    split
    · exact Int.le_refl _
    · have := Rb.advF_avail f r.step
      have e : r.step.avail = r.avail + 1 := rfl
      dsimp only
      omega
theorem Rb.adv_avail (r : Rb) : r.avail ≤ r.adv.1.avail := Rb.advF_avail _ r
theorem Rb.adv_ge : ∀ (m : Nat) (r : Rb), m ≤ 16 → (∀ e : Nat, e < m → r.ahead.toNat.testBit (r.place e) = true) → r.avail + m ≤ r.adv.1.avail
  | 0, r, _, _ => by have := r.adv_avail; omega
  | m + 1, r, hm, h => by
    have h0 : r.ahead.toNat &&& r.mark 0 ≠ 0 := fun k => by
      have h1 := h 0 (by omega)
      have h2 := (nand_zero _ _).1 k
      have e : r.place ((0 : Nat) : Int) = r.place 0 := rfl
      rw [e] at h1
      rw [h1] at h2; cases h2
    rw [Rb.adv_step h0]
    have ih := Rb.adv_ge m r.step (by omega) (fun e he => by
      have h1 := h (e + 1) (by omega)
      have e0 : r.step.ahead.toNat = clr r.ahead.toNat (r.mark 0) := by simp [Rb.step]
      have e1 : r.step.place (e : Int) = r.place ((e + 1 : Nat) : Int) := by simp only [Rb.place, Rb.step]; omega
      rw [e0, e1, clr_testBit, Rb.mark, Nat.testBit_two_pow, h1]
      have e2 : ¬ r.place 0 = r.place ((e + 1 : Nat) : Int) := by unfold Rb.place; omega
      rw [decide_eq_false e2]; rfl)
    have e : r.step.avail = r.avail + 1 := rfl
    dsimp only
    omega
/-- bytes that begin at or behind the place wanted: all that has room is taken -/
theorem Rb.ins_ge {r : Rb} (ok : r.Ok) {seq : Int} {p : List Int} (hd : seqDiff seq r.nxt ≤ 0) : min (16 : Int) (r.avail + (seqDiff seq r.nxt + p.length)) ≤ (r.ins seq p).1.avail ∧ r.avail ≤ (r.ins seq p).1.avail := by
  have hs := r.lay_same (seqDiff seq r.nxt) p (r.layN (seqDiff seq r.nxt) p)
  have a0 := ok.av0
  have a1 := ok.av1
  unfold Rb.ins
  have h2 := (r.lay (seqDiff seq r.nxt) p (r.layN (seqDiff seq r.nxt) p)).adv_avail
  rw [hs.2] at h2
  refine ⟨?_, h2⟩
  by_cases hz : seqDiff seq r.nxt + (r.layN (seqDiff seq r.nxt) p : Int) ≤ 0
  · have : (r.layN (seqDiff seq r.nxt) p : Int) = min (p.length : Int) (16 - r.avail - seqDiff seq r.nxt) := by unfold Rb.layN; omega
    omega
  · have hm := Rb.adv_ge (seqDiff seq r.nxt + (r.layN (seqDiff seq r.nxt) p : Int)).toNat (r.lay (seqDiff seq r.nxt) p (r.layN (seqDiff seq r.nxt) p)) (by unfold Rb.layN; omega) (fun e he => by
      rw [Rb.lay_place]
      have := Rb.lay_bits r (seqDiff seq r.nxt) p (r.layN (seqDiff seq r.nxt) p) ((e : Int) - seqDiff seq r.nxt).toNat (by omega) (by omega)
      have e1 : seqDiff seq r.nxt + ((((e : Int) - seqDiff seq r.nxt).toNat : Nat) : Int) = (e : Int) := by omega
      rw [e1] at this
      exact this)
    rw [hs.2] at hm
    have : (r.layN (seqDiff seq r.nxt) p : Int) = min (p.length : Int) (16 - r.avail - seqDiff seq r.nxt) := by unfold Rb.layN; omega
    omega
end Go.Proofs.Qxb6500351aGreat
