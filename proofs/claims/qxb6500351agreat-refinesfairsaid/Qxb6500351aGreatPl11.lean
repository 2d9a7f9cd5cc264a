/- THE PLAIN LAW of the link: a sound frame is read as it was written; one turned bit is always told. No Go in sight. -/
import Derived.Test.Qxb6500351aGreatPl10
import Derived.Test.Qxb6500351aGreatMd16
set_option linter.unusedVariables false
set_option linter.unusedSimpArgs false
namespace Go.Proofs.Qxb6500351aGreat
open Go.Eng
theorem smAll_a : ∀ (l : List Int) (x : Sm), 0 ≤ x.a ∧ x.a < 256 → (smAll x l).a = (x.a + l.sum) % 256
  | [], x, h => by simp only [smAll, List.foldl_nil, List.sum_nil]; omega
  | b :: l, x, h => by
    have := smAll_a l (smStep x b) (by simp only [smStep]; omega)
    show (smAll (smStep x b) l).a = _
    rw [this, List.sum_cons]
    simp only [smStep]; omega
theorem sum_set : ∀ (l : List Int) (n : Nat) (v : Int), n < l.length → (l.set n v).sum + l.getD n 0 = l.sum + v
  | [], n, v, h => by simp at h
  | b :: l, 0, v, h => by simp only [List.set_cons_zero, List.sum_cons, List.getD_cons_zero]; omega
  | b :: l, n + 1, v, h => by
    have := sum_set l n v (by simpa using h)
    simp only [List.set_cons_succ, List.sum_cons, List.getD_cons_succ]; omega
theorem frame_len {dst src typ : Int} {p : List Int} : (frameEnc dst src typ p).length = 6 + p.length := by rw [frameEnc_len]; omega
theorem frame_body {dst src typ : Int} {p : List Int} : (frameEnc dst src typ p).take ((frameEnc dst src typ p).length - 2) = frameBody dst src typ p := by
  have h : (frameBody dst src typ p).length = 4 + p.length := by simp [frameBody]; omega
  rw [frame_len]
  have : 6 + p.length - 2 = (frameBody dst src typ p).length := by omega
  rw [this]; unfold frameEnc; exact List.take_left
theorem getD_appR {l m : List Int} {n k : Nat} (h : n = l.length + k) : (l ++ m).getD n 0 = m.getD k 0 := by
  subst h
  rw [List.getD_eq_getElem?_getD, List.getD_eq_getElem?_getD, List.getElem?_append_right (by omega)]
  congr 2; omega
theorem frame_a {dst src typ : Int} {p : List Int} : (frameEnc dst src typ p).getD ((frameEnc dst src typ p).length - 2) 0 = (smAll Sm.zero (frameBody dst src typ p)).a := by
  have h : (frameBody dst src typ p).length = 4 + p.length := by simp [frameBody]; omega
  rw [frame_len]; unfold frameEnc
  rw [getD_appR (k := 0) (by omega)]; rfl
theorem frame_s {dst src typ : Int} {p : List Int} : (frameEnc dst src typ p).getD ((frameEnc dst src typ p).length - 1) 0 = (smAll Sm.zero (frameBody dst src typ p)).s := by
  have h : (frameBody dst src typ p).length = 4 + p.length := by simp [frameBody]; omega
  rw [frame_len]; unfold frameEnc
  rw [getD_appR (k := 1) (by omega)]; rfl
theorem frame_3 {dst src typ : Int} {p : List Int} : (frameEnc dst src typ p).getD 3 0 = (p.length : Int) := rfl
theorem frame_sound {dst src typ : Int} {p : List Int} (h : p.length ≤ 24) : soundF (frameEnc dst src typ p) = 0 := by
  unfold soundF
  rw [if_neg (by rw [frame_len]; omega), if_neg (by rw [frame_len]; omega), frame_3, if_neg (by rw [frame_len]; omega), frame_body, frame_a, frame_s, if_neg (by simp)]
theorem frame_pay {dst src typ : Int} {p : List Int} : frPay (frameEnc dst src typ p) = p := by
  unfold frPay
  rw [frame_len]
  unfold frameEnc frameBody
  simp
theorem frame_dec {dst src typ addr : Int} {p : List Int} (h : p.length ≤ 24) : frDecE addr (frameEnc dst src typ p) = if dst = addr then 0 else 7 := by
  unfold frDecE
  rw [if_pos (frame_sound h)]
  rfl
/-- one turned bit -/
theorem xor_ne {b n : Nat} : b ^^^ 2 ^ n ≠ b := by
  intro h
  have h1 : (b ^^^ 2 ^ n).testBit n = b.testBit n := by rw [h]
  rw [Nat.testBit_xor, Nat.testBit_two_pow_self] at h1
  cases hb : b.testBit n <;> rw [hb] at h1 <;> cases h1
theorem sound_flip {l : List Int} {v : Int} {n : Nat} (hb : Bytes l) (h : soundF l = 0) (hn : n < l.length) (hv : 0 ≤ v ∧ v < 256) (hne : v ≠ l.getD n 0) : soundF (l.set n v) ≠ 0 := by
  obtain ⟨h1, h2, h3⟩ := sound_ok h
  have hsum : ¬ ((smAll Sm.zero (l.take (l.length - 2))).a ≠ l.getD (l.length - 2) 0 ∨ (smAll Sm.zero (l.take (l.length - 2))).s ≠ l.getD (l.length - 1) 0) := by
    unfold soundF at h
    rw [if_neg (by omega), if_neg (by omega), if_neg (by rw [h3]; simp)] at h
    intro hh; rw [if_pos hh] at h; cases h
  have ha : (smAll Sm.zero (l.take (l.length - 2))).a = l.getD (l.length - 2) 0 := Decidable.not_not.1 fun k => hsum (.inl k)
  have hs : (smAll Sm.zero (l.take (l.length - 2))).s = l.getD (l.length - 1) 0 := Decidable.not_not.1 fun k => hsum (.inr k)
  have gself : (l.set n v).getD n 0 = v := by rw [List.getD_eq_getElem?_getD, List.getElem?_set_self hn]; rfl
  have gne : ∀ k, k ≠ n → (l.set n v).getD k 0 = l.getD k 0 := fun k hk => by
    rw [List.getD_eq_getElem?_getD, List.getElem?_set_ne (fun e => hk e.symm), ← List.getD_eq_getElem?_getD]
  have hold := hb.getD n
  unfold soundF
  rw [List.length_set, if_neg (by omega), if_neg (by omega)]
  by_cases c3 : n = 3
  · subst c3
    rw [gself, if_pos (by omega)]; decide
  rw [gne 3 (by omega), if_neg (by rw [h3]; simp)]
  have key : (smAll Sm.zero ((l.set n v).take (l.length - 2))).a ≠ (l.set n v).getD (l.length - 2) 0 ∨ (smAll Sm.zero ((l.set n v).take (l.length - 2))).s ≠ (l.set n v).getD (l.length - 1) 0 := by
    by_cases c1 : n < l.length - 2
    · left
      rw [gne _ (by omega), ← ha]
      have e1 : (l.set n v).take (l.length - 2) = (l.take (l.length - 2)).set n v := List.take_set
      have e2 := sum_set (l.take (l.length - 2)) n v (by rw [List.length_take]; omega)
      have e3 : (l.take (l.length - 2)).getD n 0 = l.getD n 0 := getD_take' _ _ _ c1
      rw [e1, smAll_a _ _ (by decide), smAll_a _ _ (by decide)]
      have : Sm.zero.a = 0 := rfl
      rw [this]
      omega
    · have e1 : (l.set n v).take (l.length - 2) = l.take (l.length - 2) := by
        rw [List.take_set, List.set_eq_of_length_le]; rw [List.length_take]; omega
      rw [e1, ha, hs]
      by_cases c2 : n = l.length - 2
      · left; rw [← c2, gself]; exact fun h => hne h.symm
      · right
        have : n = l.length - 1 := by omega
        rw [← this, gself]; exact fun h => hne h.symm
  rw [if_pos key]; decide
theorem flip_bad {l : List Int} {bit : Int} (hb : Bytes l) (h : soundF l = 0) (hbit : 0 ≤ bit ∧ bit / 8 < l.length) : soundF (flipRaw l bit) ≠ 0 := by
  unfold flipRaw
  have h1 := hb.getD (bit.toNat / 8)
  refine sound_flip hb h (by omega) ?_ ?_
  · have h4 : 2 ^ (bit.toNat % 8) ≤ 2 ^ 7 := Nat.pow_le_pow_right (by decide) (by omega)
    have := xor_lt8 (x := (l.getD (bit.toNat / 8) 0).toNat) (y := 2 ^ (bit.toNat % 8)) (by omega) (by omega)
    omega
  · have := xor_ne (b := (l.getD (bit.toNat / 8) 0).toNat) (n := bit.toNat % 8)
    omega
end Go.Proofs.Qxb6500351aGreat
