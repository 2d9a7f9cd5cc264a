/- THE PLAIN FUNCTIONS of the link. No Go in sight. -/
import Derived.Test.Qxb6500351aGreatMd6
set_option linter.unusedVariables false
set_option linter.unusedSimpArgs false
namespace Go.Proofs.Qxb6500351aGreat
open Go.Eng
def smStep (x : Sm) (b : Int) : Sm := ⟨(x.a + b) % 256, (x.s + (x.a + b) % 256) % 256⟩
def smAll (x : Sm) (l : List Int) : Sm := l.foldl smStep x
theorem smAll_take (x : Sm) (l : List Int) (k : Nat) (h : k < l.length) : smAll x (l.take (k + 1)) = smStep (smAll x (l.take k)) (l.getD k 0) := by
  rw [List.take_add_one, smAll, List.foldl_append]
  simp [smAll, List.getD_eq_getElem?_getD, h]
theorem smAll_app (x : Sm) (l m : List Int) : smAll x (l ++ m) = smAll (smAll x l) m := by simp [smAll, List.foldl_append]
theorem smAll_b (x : Sm) (l : List Int) (h : 0 ≤ x.a ∧ x.a < 256 ∧ 0 ≤ x.s ∧ x.s < 256) : 0 ≤ (smAll x l).a ∧ (smAll x l).a < 256 ∧ 0 ≤ (smAll x l).s ∧ (smAll x l).s < 256 := by
  induction l generalizing x with
  | nil => exact h
  | cons b r ih => exact ih (smStep x b) (by simp only [smStep]; omega)
theorem and255 {a : Int} (h : 0 ≤ a ∧ a < 256) : bAnd .i64 a 255 = a := by
  rw [bAnd_nat (f64 (by omega)) (f64 (by omega))]
  have : a.toNat &&& (255 : Int).toNat = a.toNat := by
    have h1 : (255 : Int).toNat = 2 ^ 8 - 1 := rfl
    rw [h1, Nat.and_two_pow_sub_one_eq_mod]
    omega
  rw [this]; omega
/-- is it a sound frame? an error's number, or 0 -/
def soundF (l : List Int) : Int :=
  if l.length < 6 then 1 else if 30 < l.length then 2 else if l.getD 3 0 ≠ (l.length : Int) - 6 then 3 else
  if (smAll Sm.zero (l.take (l.length - 2))).a ≠ l.getD (l.length - 2) 0 ∨ (smAll Sm.zero (l.take (l.length - 2))).s ≠ l.getD (l.length - 1) 0 then 4 else 0
/-- the bytes of a frame -/
def frameBody (dst src typ : Int) (p : List Int) : List Int := [dst, src, typ, (p.length : Int)] ++ p
def frameEnc (dst src typ : Int) (p : List Int) : List Int := frameBody dst src typ p ++ [(smAll Sm.zero (frameBody dst src typ p)).a, (smAll Sm.zero (frameBody dst src typ p)).s]
theorem sound_ok {l : List Int} (h : soundF l = 0) : 6 ≤ l.length ∧ l.length ≤ 30 ∧ l.getD 3 0 = (l.length : Int) - 6 := by
  unfold soundF at h
  split at h
  · cases h
  · split at h
    · cases h
    · split at h
      · cases h
      · rename_i a1 a2 a3
        refine ⟨by omega, by omega, ?_⟩
        exact Decidable.not_not.1 a3
/-- what Decode answers: the error's number -/
def frDecE (addr : Int) (l : List Int) : Int := if soundF l = 0 then (if l.getD 0 0 = addr then 0 else 7) else soundF l
def frPay (l : List Int) : List Int := (l.drop 4).take (l.length - 6)
theorem frPay_eq {l : List Int} {m n : Nat} (h : m = l.length - 6) (hn : l.length = n) : (List.replicate m (0 : Int)).take 0 ++ (((l.drop 4).take (n - 4)).take m) ++ (List.replicate m 0).drop (0 + m) = frPay l := by
  subst h hn
  have e : (l.drop 4).take (l.length - 4) = l.drop 4 := List.take_of_length_le (by simp)
  rw [e]
  simp [frPay]
def frHd (dst src typ : Int) (l : List Int) : List Int := [dst, src, typ, (l.length : Int)]
/-- the row after i bytes of the payload -/
def frL (dst src typ : Int) (l : List Int) (i : Nat) : List Int := frHd dst src typ l ++ l.take i ++ List.replicate (l.length - i + 2) 0
theorem frL_len {dst src typ : Int} {l : List Int} {i : Nat} (h : i ≤ l.length) : (frL dst src typ l i).length = 4 + l.length + 2 := by simp [frL, frHd]; omega
theorem frL_zero {dst src typ a0 a1 a2 a3 : Int} {l : List Int} {n : Nat} (hn : l.length = n) (h0 : a0 = dst) (h1 : a1 = src) (h2 : a2 = typ) (h3 : a3 = n) :
    ((((List.replicate (4 + n + 2) (0 : Int)).set 0 a0).set 1 a1).set 2 a2).set 3 a3 = frL dst src typ l 0 := by
  subst hn h0 h1 h2 h3
  have hr : List.replicate (4 + l.length + 2) (0 : Int) = 0 :: 0 :: 0 :: 0 :: List.replicate (l.length + 2) 0 := by
    have : 4 + l.length + 2 = (l.length + 2) + 4 := by omega
    rw [this]; rfl
  rw [hr]
  simp [frL, frHd]
theorem frL_set {dst src typ : Int} {l : List Int} {i : Nat} (h : i < l.length) : (frL dst src typ l i).set (4 + i) (l.getD i 0) = frL dst src typ l (i + 1) := by
  have hl : (frHd dst src typ l ++ l.take i).length = 4 + i := by simp [frHd]; omega
  have hr : List.replicate (l.length - i + 2) (0 : Int) = 0 :: List.replicate (l.length - (i + 1) + 2) 0 := by
    have : l.length - i + 2 = (l.length - (i + 1) + 2) + 1 := by omega
    rw [this]; rfl
  unfold frL
  rw [hr, List.set_append_right _ _ (by omega), hl, Nat.sub_self, List.set_cons_zero, List.take_succ_eq_append_getElem h, List.getD_eq_getElem?_getD, List.getElem?_eq_getElem h]
  simp only [Option.getD_some, List.append_assoc, List.cons_append, List.nil_append]
theorem frSm {dst src typ : Int} {l : List Int} {i : Nat} (h : i < l.length) : smStep (smAll Sm.zero (frHd dst src typ l ++ l.take i)) (l.getD i 0) = smAll Sm.zero (frHd dst src typ l ++ l.take (i + 1)) := by
  rw [smAll_app, smAll_app, smAll_take _ _ _ h]
theorem frEnd {dst src typ a s : Int} {l : List Int} {n : Nat} (hn : l.length = n) (ha : a = (smAll Sm.zero (frHd dst src typ l ++ l.take n)).a) (hs : s = (smAll Sm.zero (frHd dst src typ l ++ l.take n)).s) :
    ((frL dst src typ l n).set (4 + n) a).set (4 + n + 1) s = frameEnc dst src typ l := by
  subst hn ha hs
  have ht : l.take l.length = l := List.take_length
  have hl : (frHd dst src typ l ++ l).length = 4 + l.length := by simp [frHd]; omega
  unfold frL
  rw [ht, Nat.sub_self, List.set_append_right _ _ (by omega), hl, Nat.sub_self, List.set_append_right _ _ (by omega), hl]
  have : 4 + l.length + 1 - (4 + l.length) = 1 := by omega
  rw [this]
  rfl
theorem frameEnc_len {dst src typ : Int} {l : List Int} : (frameEnc dst src typ l).length = 4 + l.length + 2 := by simp [frameEnc, frameBody]; omega
theorem frL_b {dst src typ : Int} {l : List Int} (h1 : 0 ≤ dst ∧ dst ≤ 255) (h2 : 0 ≤ src ∧ src < 256) (h3 : 0 ≤ typ ∧ typ ≤ 255) (h4 : l.length ≤ 24) (hb : Bytes l) (i : Nat) : Bytes (frL dst src typ l i) := by
  refine (Bytes.append ?_ (hb.take i)).append ?_
  · intro x hx
    simp only [frHd, List.mem_cons, List.not_mem_nil, or_false] at hx
    rcases hx with rfl | rfl | rfl | rfl <;> omega
  · intro x hx
    obtain ⟨_, rfl⟩ := List.mem_replicate.1 hx
    omega
end Go.Proofs.Qxb6500351aGreat
