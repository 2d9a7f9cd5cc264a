/- PLAIN LAW: STRINGS IN ORDER; THE ROWS OF A TREE BY DECODING. -/
import Derived.Test.Qxb6500350aGreatK20
set_option linter.unusedVariables false
set_option linter.unusedSimpArgs false
set_option maxHeartbeats 1000000
namespace Go.Proofs.Qxb6500350aGreat
open Go.Eng Go
theorem sLt_nil_r (p : Str) : sLt p [] = false := by cases p <;> rfl
theorem sLt_nil_c (a : UInt8) (p : Str) : sLt [] (a :: p) = true := rfl
theorem sLt_cons (a b : UInt8) (p q : Str) : sLt (a :: p) (b :: q) = (decide (a < b) || (a == b && sLt p q)) := rfl
theorem sLt_cons' {a b : UInt8} {p q : Str} : sLt (a :: p) (b :: q) = true ↔ a.toNat < b.toNat ∨ (a = b ∧ sLt p q = true) := by
  rw [sLt_cons]; simp [UInt8.lt_iff_toNat_lt]
theorem sLt_irrefl : ∀ p : Str, sLt p p = false
  | [] => rfl
  | a :: p => by
    have h := sLt_irrefl p
    rw [← Bool.not_eq_true]
    intro h2
    rcases sLt_cons'.1 h2 with h3 | ⟨_, h3⟩
    · omega
    · rw [h] at h3; cases h3
theorem sLt_trans : ∀ {p q r : Str}, sLt p q = true → sLt q r = true → sLt p r = true
  | [], [], _, h, _ => nomatch h
  | [], _ :: _, [], _, h => nomatch h
  | [], _ :: _, _ :: _, _, _ => rfl
  | _ :: _, [], _, h, _ => nomatch h
  | _ :: _, _ :: _, [], _, h => nomatch h
  | a :: p, b :: q, c :: r, h1, h2 => by
    refine sLt_cons'.2 ?_
    rcases sLt_cons'.1 h1 with h3 | ⟨rfl, h3⟩
    · rcases sLt_cons'.1 h2 with h4 | ⟨rfl, h4⟩
      · exact .inl (by omega)
      · exact .inl h3
    · rcases sLt_cons'.1 h2 with h4 | ⟨rfl, h4⟩
      · exact .inl h4
      · exact .inr ⟨rfl, sLt_trans h3 h4⟩
theorem sLt_asymm {p q : Str} (h : sLt p q = true) : sLt q p = false := by
  rw [← Bool.not_eq_true]
  intro h2
  have := sLt_trans h h2
  rw [sLt_irrefl] at this; cases this
theorem sLt_ne {p q : Str} (h : sLt p q = true) : p ≠ q := by
  rintro rfl; rw [sLt_irrefl] at h; cases h
theorem sLt_tri : ∀ p q : Str, sLt p q = true ∨ p = q ∨ sLt q p = true
  | [], [] => .inr (.inl rfl)
  | [], _ :: _ => .inl rfl
  | _ :: _, [] => .inr (.inr rfl)
  | a :: p, b :: q => by
    rcases Nat.lt_trichotomy a.toNat b.toNat with h | h | h
    · exact .inl (sLt_cons'.2 (.inl h))
    · have : a = b := UInt8.toNat_inj.1 h
      subst this
      rcases sLt_tri p q with h1 | h1 | h1
      · exact .inl (sLt_cons'.2 (.inr ⟨rfl, h1⟩))
      · exact .inr (.inl (by rw [h1]))
      · exact .inr (.inr (sLt_cons'.2 (.inr ⟨rfl, h1⟩)))
    · exact .inr (.inr (sLt_cons'.2 (.inl h)))
/-- not above -/
def sLe (p q : Str) : Prop := sLt q p = false
theorem sLe_iff {p q : Str} : sLe p q ↔ sLt p q = true ∨ p = q := by
  constructor
  · intro h
    rcases sLt_tri p q with h1 | h1 | h1
    · exact .inl h1
    · exact .inr h1
    · rw [sLe, h1] at h; cases h
  · rintro (h | rfl)
    · exact sLt_asymm h
    · exact sLt_irrefl _
theorem sLt_of_le_lt {p q r : Str} (h : sLe p q) (k : sLt q r = true) : sLt p r = true := by
  rcases sLe_iff.1 h with h | rfl
  · exact sLt_trans h k
  · exact k
theorem sLt_of_lt_le {p q r : Str} (h : sLt p q = true) (k : sLe q r) : sLt p r = true := by
  rcases sLe_iff.1 k with k | rfl
  · exact sLt_trans h k
  · exact h
theorem sLt_app : ∀ (p a b : Str), sLt (p ++ a) (p ++ b) = sLt a b
  | [], _, _ => rfl
  | c :: p, a, b => by
    rw [List.cons_append, List.cons_append, sLt_cons, sLt_app p a b]
    have : ¬ (c < c) := by rw [UInt8.lt_iff_toNat_lt]; omega
    simp [this]
theorem sLe_app (p w : Str) : sLe p (p ++ w) := by
  have := sLt_app p w []
  rw [List.append_nil, sLt_nil_r] at this
  exact this
theorem sLt_between : ∀ {p a w : Str}, sLt p a = true → sLt a (p ++ w) = true → p <+: a
  | [], a, w, _, _ => List.nil_prefix
  | _ :: _, [], _, h, _ => nomatch h
  | c :: p, b :: a, w, h1, h2 => by
    rw [List.cons_append] at h2
    rcases sLt_cons'.1 h1 with h3 | ⟨rfl, h3⟩
    · rcases sLt_cons'.1 h2 with h4 | ⟨rfl, h4⟩ <;> omega
    · rcases sLt_cons'.1 h2 with h4 | ⟨_, h4⟩
      · omega
      · obtain ⟨v, hv⟩ := sLt_between h3 h4
        exact ⟨v, by rw [List.cons_append, hv]⟩

def decR : Nat → List UInt8 → List Line
  | n + 1, h :: i :: l :: r => { dir := decide (h = 1), mode := if h = 1 then 0 else (h.toNat : Int) / 2, id := (i.toNat : Int), name := r.take l.toNat } :: decR n (r.drop l.toNat)
  | _, _ => []
theorem u8_toNat {i : Int} (h0 : 0 ≤ i) (h1 : i < 256) : (u8 i).toNat = i.toNat := by have := u8_nat h0 h1; omega
theorem decR_enc : ∀ (rs : List Line) (m : Nat), (∀ r, r ∈ rs → r.Ok) → (rs.flatMap encL).length ≤ m → decR m (rs.flatMap encL) = rs
  | [], m, _, _ => by cases m <;> rfl
  | r :: rs, m, h, hm => by
    have ha := h r (by simp)
    have a1 := ha.id0
    have a2 := ha.id1
    have a3 := ha.n0
    have a4 := ha.n1
    have a5 := ha.m0
    have a6 := ha.m1
    rw [List.flatMap_cons, List.length_append, encL_len] at hm
    cases m with
    | zero => omega
    | succ m =>
      have ih := decR_enc rs m (fun x hx => h x (List.mem_cons_of_mem _ hx)) (by omega)
      rw [List.flatMap_cons]
      show decR (m + 1) (u8 (if r.dir then 1 else r.mode * 2) :: u8 r.id :: u8 r.name.length :: (r.name ++ rs.flatMap encL)) = _
      have hl : (u8 (r.name.length : Int)).toNat = r.name.length := by rw [u8_toNat (by omega) (by omega)]; omega
      have hi : ((u8 r.id).toNat : Int) = r.id := u8_nat (by omega) (by omega)
      show _ :: decR m _ = _
      rw [hl, List.take_left' rfl, List.drop_left' rfl, ih, hi]
      congr 1
      obtain ⟨dir, mode, id, name⟩ := r
      cases dir with
      | true =>
        have := ha.dm rfl
        simp only at this
        subst this
        rfl
      | false =>
        simp only [Bool.false_eq_true, if_false]
        simp only at a5 a6
        have hne : ¬ (u8 (mode * 2) = 1) := by
          intro he
          have := congrArg UInt8.toNat he
          rw [u8_toNat (by omega) (by omega)] at this
          have h1 : (1 : UInt8).toNat = 1 := rfl
          omega
        rw [if_neg hne, u8_nat (by omega) (by omega), decide_eq_false hne]
        congr 1
        omega
/-- the rows of the live tree j, none for all else -/
def Rw (A : Int → Ob) (j : Int) : List Line := if 1 ≤ j ∧ j ≤ 48 ∧ (A j).tree then decR (A j).data.length (A j).data else []
theorem Rw_no {A : Int → Ob} {j : Int} (h : ¬ (1 ≤ j ∧ j ≤ 48 ∧ (A j).tree)) : Rw A j = [] := if_neg h
theorem Rw_eq {A : Int → Ob} {j : Int} {rs : List Line} (h0 : 1 ≤ j) (h1 : j ≤ 48) (h2 : (A j).tree) (hd : (A j).data = rs.flatMap encL) (hr : ∀ r, r ∈ rs → r.Ok) : Rw A j = rs := by
  unfold Rw
  rw [if_pos ⟨h0, h1, h2⟩, hd]
  exact decR_enc rs _ hr (Nat.le_refl _)
theorem Rw_congr {A A' : Int → Ob} {j : Int} (h : A' j = A j) : Rw A' j = Rw A j := by unfold Rw; rw [h]
end Go.Proofs.Qxb6500350aGreat
