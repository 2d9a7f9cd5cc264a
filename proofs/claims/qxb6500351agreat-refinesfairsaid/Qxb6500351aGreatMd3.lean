/- THE PLAIN FUNCTIONS of the receive buffer's Insert and Held. No Go in sight. -/
import Derived.Test.Qxb6500351aGreatMd2
set_option linter.unusedVariables false
set_option linter.unusedSimpArgs false
namespace Go.Proofs.Qxb6500351aGreat
open Go.Eng

def popF : Nat → Nat → Int
  | 0, _ => 0
  | f + 1, m => if m = 0 then 0 else popF f (m &&& (m - 1)) + 1
theorem popF_eq : ∀ (f m g : Nat), m ≤ f → m ≤ g → popF f m = popF g m
  | 0, m, g, h, _ => by
    obtain rfl : m = 0 := by omega
    cases g <;> simp [popF]
  | f + 1, m, 0, _, h => by
    obtain rfl : m = 0 := by omega
    simp [popF]
  | f + 1, m, g + 1, h1, h2 => by
    simp only [popF]
    split
    · rfl
    · have : m &&& (m - 1) ≤ m - 1 := Nat.and_le_right
      rw [popF_eq f _ g (by omega) (by omega)]
def pop (m : Nat) : Int := popF m m
theorem pop_zero : pop 0 = 0 := rfl
theorem and_pred_lt {m : Nat} (h : m ≠ 0) : m &&& (m - 1) < m := by
  have : m &&& (m - 1) ≤ m - 1 := Nat.and_le_right
  omega
theorem pop_step {m : Nat} (h : m ≠ 0) : pop m = pop (m &&& (m - 1)) + 1 := by
  have h1 := and_pred_lt h
  obtain ⟨k, rfl⟩ : ∃ k, m = k + 1 := ⟨m - 1, by omega⟩
  have h2 : popF (k + 1) (k + 1) = popF k ((k + 1) &&& (k + 1 - 1)) + 1 := by simp only [popF]; rw [if_neg h]
  unfold pop
  rw [h2, popF_eq k _ ((k + 1) &&& (k + 1 - 1)) (by omega) (Nat.le_refl _)]
theorem popF_b : ∀ (f m : Nat), 0 ≤ popF f m ∧ popF f m ≤ f
  | 0, m => by simp [popF]
  | f + 1, m => by
    have := popF_b f (m &&& (m - 1))
    simp only [popF]
    split <;> omega
theorem pop_b (m : Nat) : 0 ≤ pop m ∧ pop m ≤ m := popF_b m m
theorem and_pred16 {m : Nat} (h : m ≠ 0) (h2 : m < 65536) : bAnd .u16 (m : Int) (((m : Int) - 1) % 65536) = ((m &&& (m - 1) : Nat) : Int) := by
  have e : ((m : Int) - 1) % 65536 = ((m - 1 : Nat) : Int) := by omega
  rw [e, bAnd_nat (f16 (by omega)) (f16 (by omega))]
  simp
def Rb.held (r : Rb) : Int := pop r.ahead.toNat

def Rb.mark (r : Rb) (d : Int) : Nat := 2 ^ r.place d
theorem Rb.place_lt (r : Rb) (d : Int) : r.place d < 16 := by unfold Rb.place; omega
theorem Rb.mark_lt (r : Rb) (d : Int) : r.mark d < 65536 := by
  have := Nat.pow_lt_pow_right (a := 2) (by omega) (r.place_lt d)
  unfold Rb.mark; omega
theorem Rb.Ok.fm {r : Rb} (h : r.Ok) : Fits .u16 r.ahead := f16 ⟨h.ah0, h.ah1⟩
theorem Rb.band {r : Rb} (h : r.Ok) (d : Int) : bAnd .u16 r.ahead ((r.mark d : Nat) : Int) = ((r.ahead.toNat &&& r.mark d : Nat) : Int) := by
  unfold Rb.mark; rw [bAnd_nat h.fm (f16m (r.place_lt d)), Int.toNat_natCast]
theorem Rb.bor {r : Rb} (h : r.Ok) (d : Int) : bOr .u16 r.ahead ((r.mark d : Nat) : Int) = ((r.ahead.toNat ||| r.mark d : Nat) : Int) := by
  unfold Rb.mark; rw [bOr_nat h.fm (f16m (r.place_lt d)), Int.toNat_natCast]
theorem Rb.bclr {r : Rb} (h : r.Ok) (d : Int) : bAndNot .u16 r.ahead ((r.mark d : Nat) : Int) = ((clr r.ahead.toNat (r.mark d) : Nat) : Int) := by
  unfold Rb.mark; rw [bAndNot_nat h.fm (f16m (r.place_lt d)), Int.toNat_natCast]
def Rb.set1 (r : Rb) (d x : Int) : Rb := if r.ahead.toNat &&& r.mark d = 0 then { r with ahead := ((r.ahead.toNat ||| r.mark d : Nat) : Int), ring := upA r.ring (r.place d) x } else r
def Rb.lay (r : Rb) (d0 : Int) (p : List Int) : Nat → Rb
  | 0 => r
  | k + 1 => if d0 + k < 0 then r.lay d0 p k else (r.lay d0 p k).set1 (d0 + k) (p.getD k 0)
theorem Rb.set1_same (r : Rb) (d x : Int) : (r.set1 d x).nxt = r.nxt ∧ (r.set1 d x).avail = r.avail := by unfold Rb.set1; split <;> exact ⟨rfl, rfl⟩
theorem Rb.lay_same (r : Rb) (d0 : Int) (p : List Int) : ∀ k, (r.lay d0 p k).nxt = r.nxt ∧ (r.lay d0 p k).avail = r.avail
  | 0 => ⟨rfl, rfl⟩
  | k + 1 => by
    have ih := Rb.lay_same r d0 p k
    simp only [Rb.lay]
    split
    · exact ih
    · have := (r.lay d0 p k).set1_same (d0 + k) (p.getD k 0)
      exact ⟨this.1.trans ih.1, this.2.trans ih.2⟩
theorem or_testBit_two_pow (a j i : Nat) : (a ||| 2 ^ j).testBit i = (a.testBit i || decide (j = i)) := by rw [Nat.testBit_or, Nat.testBit_two_pow]
theorem Rb.ok_set1 {r : Rb} (h : r.Ok) {d x : Int} (hd : 0 ≤ d ∧ d < 16 - r.avail) (hx : 0 ≤ x ∧ x < 256) : (r.set1 d x).Ok := by
  unfold Rb.set1
  split
  · have h0 := h
    obtain ⟨h1, h2, h3, h4, h5, h6, h7, h8⟩ := h
    have hm := r.mark_lt d
    have ho : r.ahead.toNat ||| r.mark d < 2 ^ 16 := Nat.or_lt_two_pow (by omega) (by omega)
    refine ⟨h1, h2, h3, h4, by simp only; omega, by simp only; omega, ?_, ?_⟩
    · intro i
      simp only [upA]
      split
      · exact hx
      · exact h7 i
    · intro k k1 k2
      have h9 := h8 k k1 k2
      have k3 : (k : Int) ≤ r.avail := k2
      have h10 : ¬ r.place d = r.place (-(k : Int)) := by unfold Rb.place; omega
      show (((r.ahead.toNat ||| r.mark d : Nat) : Int).toNat).testBit (r.place (-(k : Int))) = false
      rw [Int.toNat_natCast, Rb.mark, or_testBit_two_pow, h9]
      simpa using h10
  · exact h
theorem Rb.ok_lay {r : Rb} (h : r.Ok) {d0 : Int} {p : List Int} (hp : Bytes p) : ∀ (k : Nat), (k = 0 ∨ d0 + k ≤ 16 - r.avail) → (r.lay d0 p k).Ok
  | 0, _ => h
  | k + 1, hk => by
    have ih := Rb.ok_lay h (d0 := d0) hp k (by omega)
    have hs := r.lay_same d0 p k
    simp only [Rb.lay]
    split
    · exact ih
    · exact Rb.ok_set1 ih (by rw [hs.2]; omega) (hp.getD k)
theorem Rb.lay_neg {r : Rb} {d0 : Int} {p : List Int} {k : Nat} (h : d0 + k < 0) : r.lay d0 p (k + 1) = r.lay d0 p k := by simp only [Rb.lay]; rw [if_pos h]
theorem Rb.lay_has {r : Rb} {d0 : Int} {p : List Int} {k : Nat} (h : ¬ d0 + k < 0) (h2 : ¬ (r.lay d0 p k).ahead.toNat &&& (r.lay d0 p k).mark (d0 + k) = 0) : r.lay d0 p (k + 1) = r.lay d0 p k := by
  simp only [Rb.lay]; rw [if_neg h, Rb.set1, if_neg h2]
theorem Rb.lay_put {r : Rb} {d0 : Int} {p : List Int} {k : Nat} (h : ¬ d0 + k < 0) (h2 : (r.lay d0 p k).ahead.toNat &&& (r.lay d0 p k).mark (d0 + k) = 0) :
    r.lay d0 p (k + 1) = { r.lay d0 p k with ahead := (((r.lay d0 p k).ahead.toNat ||| (r.lay d0 p k).mark (d0 + k) : Nat) : Int), ring := upA (r.lay d0 p k).ring ((r.lay d0 p k).place (d0 + k)) (p.getD k 0) } := by
  simp only [Rb.lay]; rw [if_neg h, Rb.set1, if_pos h2]
def Rb.layN (r : Rb) (d0 : Int) (p : List Int) : Nat := min p.length (16 - r.avail - d0).toNat
def Rb.step (r : Rb) : Rb := { r with ahead := ((clr r.ahead.toNat (r.mark 0) : Nat) : Int), nxt := (r.nxt + 1) % 256, avail := r.avail + 1 }
def Rb.advF : Nat → Rb → Rb × Int
  | 0, r => (r, 0)
  | f + 1, r => if r.ahead.toNat &&& r.mark 0 = 0 then (r, 0) else ((Rb.advF f r.step).1, (Rb.advF f r.step).2 + 1)
theorem clr_lt {a j : Nat} (h : a &&& 2 ^ j ≠ 0) : clr a (2 ^ j) < a := by
  have h1 := clr_le a (2 ^ j)
  rcases Nat.lt_or_ge (clr a (2 ^ j)) a with h2 | h2
  · exact h2
  · exfalso
    have h3 : clr a (2 ^ j) = a := by omega
    have h4 := clr_testBit a (2 ^ j) j
    rw [h3, Nat.testBit_two_pow_self] at h4
    exact h ((nand_zero a j).2 (by simpa using h4))
theorem Rb.step_lt {r : Rb} (h : r.ahead.toNat &&& r.mark 0 ≠ 0) : r.step.ahead.toNat < r.ahead.toNat := by
  have := clr_lt h
  simpa [Rb.step, Rb.mark] using this
theorem Rb.advF_eq : ∀ (f : Nat) (r : Rb) (g : Nat), r.ahead.toNat ≤ f → r.ahead.toNat ≤ g → Rb.advF f r = Rb.advF g r
  | 0, r, g, h, _ => by
    have h0 : r.ahead.toNat = 0 := by omega
    cases g <;> simp [Rb.advF, h0]
  | f + 1, r, 0, _, h => by
    have h0 : r.ahead.toNat = 0 := by omega
    simp [Rb.advF, h0]
  | f + 1, r, g + 1, h1, h2 => by
    simp only [Rb.advF]
    split
    · rfl
    · rename_i h
      have := r.step_lt h
      rw [Rb.advF_eq f r.step g (by omega) (by omega)]
def Rb.adv (r : Rb) : Rb × Int := Rb.advF r.ahead.toNat r
theorem Rb.adv_stop {r : Rb} (h : r.ahead.toNat &&& r.mark 0 = 0) : r.adv = (r, 0) := by
  unfold Rb.adv
  cases r.ahead.toNat with
  | zero => rfl
  | succ f => simp only [Rb.advF]; rw [if_pos h]
theorem Rb.adv_step {r : Rb} (h : r.ahead.toNat &&& r.mark 0 ≠ 0) : r.adv = (r.step.adv.1, r.step.adv.2 + 1) := by
  have hl := r.step_lt h
  have h0 : Rb.advF r.ahead.toNat r = Rb.advF (r.ahead.toNat + 1) r := Rb.advF_eq _ _ _ (Nat.le_refl _) (by omega)
  unfold Rb.adv
  rw [h0]
  simp only [Rb.advF]
  rw [if_neg h, Rb.advF_eq r.ahead.toNat r.step r.step.ahead.toNat (by omega) (Nat.le_refl _)]
theorem Rb.ok_step {r : Rb} (h : r.Ok) (hb : r.ahead.toNat &&& r.mark 0 ≠ 0) : r.step.Ok := by
  have hl := r.step_lt hb
  obtain ⟨h1, h2, h3, h4, h5, h6, h7, h8⟩ := h
  have hbit : r.ahead.toNat.testBit (r.place 0) = true := by
    cases ht : r.ahead.toNat.testBit (r.place 0) with
    | true => rfl
    | false => exact absurd ((nand_zero _ _).2 ht) hb
  have hav : r.avail < 16 := by
    rcases Int.lt_or_le r.avail 16 with h9 | h9
    · exact h9
    · have := h8 16 (by omega) (by omega)
      have he : r.place (-(16 : Nat)) = r.place 0 := by unfold Rb.place; omega
      rw [he, hbit] at this; cases this
  refine ⟨by simp only [Rb.step]; omega, by simp only [Rb.step]; omega, by simp only [Rb.step]; omega, by simp only [Rb.step]; omega, by simp only [Rb.step]; omega, ?_, h7, ?_⟩
  · have : r.step.ahead.toNat < 65536 := by omega
    have h9 : 0 ≤ r.step.ahead := by simp only [Rb.step]; omega
    omega
  · intro k k1 k2
    have e0 : r.step.ahead.toNat = clr r.ahead.toNat (r.mark 0) := by simp [Rb.step]
    have e1 : r.step.place (-(k : Int)) = r.place (1 - (k : Int)) := by simp only [Rb.place, Rb.step]; omega
    rw [e0, e1, clr_testBit, Rb.mark, Nat.testBit_two_pow]
    rcases Nat.lt_or_ge 1 k with h9 | h9
    · have h10 := h8 (k - 1) (by omega) (by simp only [Rb.step] at k2; omega)
      have e2 : r.place (-((k - 1 : Nat) : Int)) = r.place (1 - (k : Int)) := by unfold Rb.place; congr 2; omega
      rw [e2] at h10
      rw [h10]; rfl
    · obtain rfl : k = 1 := by omega
      have e3 : r.place (1 - ((1 : Nat) : Int)) = r.place 0 := rfl
      rw [e3]; simp
def Rb.ins (r : Rb) (seq : Int) (p : List Int) : Rb × Int := (r.lay (seqDiff seq r.nxt) p (r.layN (seqDiff seq r.nxt) p)).adv
theorem Rb.ok_advF : ∀ (f : Nat) {r : Rb}, r.Ok → (Rb.advF f r).1.Ok
  | 0, r, h => h
  | f + 1, r, h => by
    simp only [Rb.advF]
    split
    · exact h
    · rename_i hb; exact Rb.ok_advF f (Rb.ok_step h hb)
theorem Rb.layN_le (r : Rb) (d0 : Int) (p : List Int) : r.layN d0 p ≤ p.length ∧ (r.layN d0 p = 0 ∨ d0 + r.layN d0 p ≤ 16 - r.avail) ∧ (r.layN d0 p = p.length ∨ 16 - r.avail ≤ d0 + r.layN d0 p) := by
  unfold Rb.layN
  rcases Nat.le_total p.length (16 - r.avail - d0).toNat with h | h
  · rw [Nat.min_eq_left h]; omega
  · rw [Nat.min_eq_right h]; omega
theorem Rb.ok_ins {r : Rb} (h : r.Ok) (seq : Int) {p : List Int} (hp : Bytes p) : (r.ins seq p).1.Ok :=
  Rb.ok_advF _ (Rb.ok_lay h hp _ (r.layN_le _ _).2.1)
theorem segDec_short {src dst : Int} {l : List Int} (h : l.length < 8) : (segDec src dst l).1 = 1 := by simp only [segDec]; rw [if_pos h]
theorem segDec_long {src dst : Int} {l : List Int} (h : 20 < l.length) : (segDec src dst l).1 = 2 := by simp only [segDec]; rw [if_neg (by omega), if_pos h]
theorem segDec_sum {src dst : Int} {l : List Int} (h1 : 8 ≤ l.length) (h2 : l.length ≤ 20) (h : ¬ (overF src dst (l.take 6) (l.drop 8)).a = l.getD 6 0 ∨ ¬ (overF src dst (l.take 6) (l.drop 8)).s = l.getD 7 0) : (segDec src dst l).1 = 4 := by
  simp only [segDec]; rw [if_neg (by omega), if_neg (by omega), if_pos h]
theorem segDec_arg {src dst : Int} {l : List Int} (h1 : 8 ≤ l.length) (h2 : l.length ≤ 20) (h : (overF src dst (l.take 6) (l.drop 8)).a = l.getD 6 0) (h3 : (overF src dst (l.take 6) (l.drop 8)).s = l.getD 7 0) (h4 : 15 < l.getD 4 0) : (segDec src dst l).1 = 24 := by
  simp only [segDec]; rw [if_neg (by omega), if_neg (by omega), if_neg (by simp only [h, h3]; simp), if_pos h4]
theorem segDec_ok {src dst : Int} {l : List Int} (h1 : 8 ≤ l.length) (h2 : l.length ≤ 20) (h : (overF src dst (l.take 6) (l.drop 8)).a = l.getD 6 0) (h3 : (overF src dst (l.take 6) (l.drop 8)).s = l.getD 7 0) (h4 : l.getD 4 0 ≤ 15) :
    segDec src dst l = (0, ⟨l.getD 0 0, l.getD 1 0, l.getD 2 0, l.getD 3 0, l.getD 4 0, l.getD 5 0, l.drop 8⟩) := by
  simp only [segDec]; rw [if_neg (by omega), if_neg (by omega), if_neg (by simp only [h, h3]; simp), if_neg (by omega)]
theorem take_getD {l m : List Int} {k : Nat} (h : l.take k = m.take k) (h1 : k < l.length) (h2 : k < m.length) (h3 : l.getD k 0 = m.getD k 0) : l.take (k + 1) = m.take (k + 1) := by
  rw [List.take_add_one, List.take_add_one, h]
  congr 1
  rw [List.getD_eq_getElem?_getD, List.getD_eq_getElem?_getD, List.getElem?_eq_getElem h1, List.getElem?_eq_getElem h2] at h3
  rw [List.getElem?_eq_getElem h1, List.getElem?_eq_getElem h2]
  simpa using h3
theorem pre_iff {l m : List Int} {k : Nat} (h : k = l.length) : (l = (m.drop 0).take (k - 0)) ↔ l <+: m := by
  subst h
  simp only [List.drop_zero, Nat.sub_zero]
  exact ⟨fun h => by rw [h]; exact List.take_prefix _ _, fun h => List.prefix_iff_eq_take.1 h⟩
end Go.Proofs.Qxb6500351aGreat
