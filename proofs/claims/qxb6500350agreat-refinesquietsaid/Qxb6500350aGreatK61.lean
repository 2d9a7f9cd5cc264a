/- PLAIN LAW: DIFF (3): MATCH ON NUMBERS. -/
import Derived.Test.Qxb6500350aGreatK60
set_option linter.unusedVariables false
set_option linter.unusedSimpArgs false
set_option maxHeartbeats 2000000
namespace Go.Proofs.Qxb6500350aGreat
open Go.Eng Go
theorem lcsR_shift {E E' : Nat → Nat → Bool} {na nb na' nb' : Nat} (hE : ∀ a b, 0 < a → 0 < b → a ≤ na' → b ≤ nb' → E' (na' - a) (nb' - b) = E (na - a) (nb - b)) :
    ∀ (m a b : Nat), a + b ≤ m → a ≤ na' → b ≤ nb' → lcsR E' na' nb' a b = lcsR E na nb a b
  | _, 0, b, _, _, _ => by rw [lcsR_z1, lcsR_z1]
  | _, a + 1, 0, _, _, _ => by rw [lcsR_z2, lcsR_z2]
  | 0, a + 1, b + 1, h, _, _ => by omega
  | m + 1, a + 1, b + 1, h, ha, hb => by
    rw [lcsR, lcsR, lcsR_shift hE m a b (by omega) (by omega) (by omega), lcsR_shift hE m a (b + 1) (by omega) (by omega) (by omega), lcsR_shift hE m (a + 1) b (by omega) (by omega) (by omega), hE (a + 1) (b + 1) (by omega) (by omega) ha hb]
theorem LC_drop {α : Type} [DecidableEq α] {x y : List α} {c i j : Nat} (hi : i ≤ x.length - c) (hj : j ≤ y.length - c) (hx : c ≤ x.length) (hy : c ≤ y.length) :
    LC (eqE (x.drop c) (y.drop c)) (x.length - c) (y.length - c) i j = LC (eqE x y) x.length y.length (i + c) (j + c) := by
  unfold LC
  rw [lcsR_shift (E := eqE x y) (na := x.length) (nb := y.length) (fun a b h1 h2 h3 h4 => ?_) _ _ _ (Nat.le_refl _) (by omega) (by omega), show x.length - c - i = x.length - (i + c) by omega, show y.length - c - j = y.length - (j + c) by omega]
  unfold eqE
  rw [List.getElem?_drop, List.getElem?_drop, show c + (x.length - c - a) = x.length - a by omega, show c + (y.length - c - b) = y.length - b by omega]
theorem matchN_ok {n : Nat} {x y : List Int} (hn : 100000 ≤ n) (ha : x.length ≤ 1024) (hb : y.length ≤ 1024) : m255 n x y = some (walkM (eqE x y) x.length y.length 0 0) := by
  refine Ok.eq ?_
  unfold m255
  refine Ok_mk (by omega) (by omega) (by omega) (Ok_ob2 ?_)
  unfold m255_w1
  refine Ok_it2 (fun (c : Int) (l : List Int) => ∃ k : Nat, c = k ∧ k ≤ x.length ∧ k ≤ y.length ∧ l.length = x.length ∧ (∀ m, m < k → l[m]? = some (m : Int)) ∧ ∀ m, m < k → eqE x y m m = true) (fun (c : Int) _ => ((x.length : Int) - c).toNat) ?_ n 0 _
    ⟨0, rfl, by omega, by omega, by rw [List.length_replicate]; omega, fun m hm => by omega, fun m hm => by omega⟩ (by show ((x.length : Int) - 0).toNat < n; omega)
  rintro Q lp c l hQ ⟨k, rfl, h1, h2, h3, h4, h5⟩ ih
  have fin : Ok (some ((k : Int), l)) Q := by
    refine Ok.some' (hQ _ ?_)
    dsimp only
    refine Ok_sl (by omega) (by omega) (by omega) (Ok_sl (by omega) (by omega) (by omega) ?_)
    rw [Int.toNat_natCast, Int.toNat_natCast, Int.toNat_natCast, List.take_of_length_le (l := x.drop k) (by rw [List.length_drop]; omega), List.take_of_length_le (l := y.drop k) (by rw [List.length_drop]; omega)]
    obtain ⟨tb, htb, hF⟩ := suf_ok (x := x.drop k) (y := y.drop k) hn (by rw [List.length_drop]; omega) (by rw [List.length_drop]; omega)
    rw [List.length_drop, List.length_drop] at hF
    refine Ok_cl1 htb (Ok_ob3 ?_)
    clear ih
    have rd : ∀ {i j : Nat}, k ≤ i → k ≤ j → i ≤ x.length → j ≤ y.length → m292 n tb ((i : Int) - k) ((j : Int) - k) = some (LC (eqE x y) x.length y.length i j) := by
      intro i j g1 g2 g3 g4
      rw [show (i : Int) - k = ((i - k : Nat) : Int) by omega, show (j : Int) - k = ((j - k : Nat) : Int) by omega]
      rw [tat_ok hF (by omega) (by omega) (by omega) (by omega), if_pos ⟨by omega, by omega⟩, LC_drop (by omega) (by omega) h1 h2, show i - k + k = i by omega, show j - k + k = j by omega]
    obtain ⟨l0, g1, g2, g3⟩ := walkM_pre (E := eqE x y) h1 h2 h5 k (Nat.le_refl _)
    rw [Nat.sub_self] at g1
    have hl0 : l.take k = l0 := by
      refine List.ext_getElem? (fun m => ?_)
      by_cases hm : m < k
      · rw [List.getElem?_take_of_lt hm, h4 m hm, g3 m hm]; congr 2; omega
      · rw [List.getElem?_eq_none (by rw [List.length_take]; omega), List.getElem?_eq_none (by omega)]
    unfold m255_w2
    refine Ok_it3 (fun (c1 c2 : Int) (l : List Int) => ∃ i j : Nat, ∃ pre : List Int, c1 = i ∧ c2 = j ∧ k ≤ i ∧ k ≤ j ∧ i ≤ x.length ∧ j ≤ y.length ∧ l.length = x.length ∧ pre.length = i ∧ l.take i = pre ∧ pre ++ walkM (eqE x y) x.length y.length i j = walkM (eqE x y) x.length y.length 0 0) (fun (c1 c2 : Int) _ => ((x.length : Int) - c1 + (y.length - c2)).toNat) ?_ n _ _ l
      ⟨k, k, l0, rfl, rfl, by omega, by omega, h1, h2, h3, g2, hl0, g1.symm⟩ (by show ((x.length : Int) - k + (y.length - k)).toNat < n; omega)
    rintro Q2 lp2 c1 c2 l2 hQ2 ⟨i, j, pre, rfl, rfl, hki, hkj, hi, hj, hl, hp, hlp, hw⟩ ih
    subst hp
    have hset : ∀ v, pre.length < x.length → (l2.set (pre.length : Int).toNat v).take (pre.length + 1) = pre ++ [v] := fun v _ => by rw [Int.toNat_natCast]; exact set_snoc (by omega) hlp
    refine Ok_ite (fun hlt => ?_) (fun hge => ?_)
    · rw [wi_e (x := (pre.length : Int) + 1) (by omega) (by omega), wi_e (x := (j : Int) + 1) (by omega) (by omega), wi_e (x := (pre.length : Int) - k) (by omega) (by omega), wi_e (x := (j : Int) - k) (by omega) (by omega), wi_e (x := (pre.length : Int) - k + 1) (by omega) (by omega), wi_e (x := (j : Int) - k + 1) (by omega) (by omega)]
      refine Ok_ite (fun hjb => ?_) (fun hjb => Ok_ix (by omega) hlt (fun u hu => Ok_ix (by omega) (by omega) (fun v hv => ?_)))
      · refine Ok_ck (by omega) (by omega) (Ok_st (by omega) (by omega) (ih _ _ _ ⟨pre.length + 1, j, pre ++ [-1], by omega, by omega, by omega, by omega, by omega, by omega, by rw [List.length_set, hl], by simp, hset _ (by omega), ?_⟩ (by omega)))
        rw [← hw, walkM_o (i := pre.length) (j := j) (by omega) (by omega)]
        simp
      · rw [Int.toNat_natCast] at hu hv
        have hE := eqE_of hu hv
        refine Ok_ite (fun e => ?_) (fun e => ?_)
        · refine Ok_ck (by omega) (by omega) (Ok_st (by omega) (by omega) (ih _ _ _ ⟨pre.length + 1, j + 1, pre ++ [(j : Int)], by omega, by omega, by omega, by omega, by omega, by omega, by rw [List.length_set, hl], by simp, hset _ (by omega), ?_⟩ (by omega)))
          rw [← hw, walkM_e (i := pre.length) (j := j) (by omega) (by omega) (by rw [hE]; exact decide_eq_true e)]
          simp
        · have hne : eqE x y pre.length j = false := by rw [hE]; exact decide_eq_false e
          have r1 := rd (i := pre.length + 1) (j := j) (by omega) (by omega) (by omega) (by omega)
          have r2 := rd (i := pre.length) (j := j + 1) (by omega) (by omega) (by omega) (by omega)
          rw [show ((pre.length + 1 : Nat) : Int) - k = (pre.length : Int) - k + 1 by omega] at r1
          rw [show ((j + 1 : Nat) : Int) - k = (j : Int) - k + 1 by omega] at r2
          refine Ok_cl1 r1 (Ok_cl1 r2 (Ok_ite (fun hle => ?_) (fun hle => ?_)))
          · refine Ok_ck (by omega) (by omega) (Ok_st (by omega) (by omega) (ih _ _ _ ⟨pre.length + 1, j, pre ++ [-1], by omega, by omega, by omega, by omega, by omega, by omega, by rw [List.length_set, hl], by simp, hset _ (by omega), ?_⟩ (by omega)))
            rw [← hw, walkM_d (i := pre.length) (j := j) (by omega) (by omega) hne (by omega)]
            simp
          · refine ih _ _ _ ⟨pre.length, j + 1, pre, rfl, by omega, by omega, by omega, by omega, by omega, hl, rfl, hlp, ?_⟩ (by omega)
            rw [← hw, walkM_r (i := pre.length) (j := j) (by omega) (by omega) hne (by omega)]
    · refine Ok.some' (hQ2 _ (Ok.some' ?_))
      dsimp only
      rw [walkM_z (by omega), List.append_nil] at hw
      rw [← hw, ← hlp, List.take_of_length_le (by omega)]
  refine Ok_ob1 ?_
  refine Ok_ite (fun hx => Ok_ite (fun hy => Ok_ix (by omega) hx (fun u hu => Ok_ix (by omega) hy (fun v hv => Ok.some' ?_))) (fun hy => Ok.some' ?_)) (fun hx => Ok.some' ?_)
  · refine Ok_ite (fun e => ?_) (fun _ => fin)
    rw [Int.toNat_natCast] at hu hv
    have hE := eqE_of hu hv
    rw [wi_e (by omega) (by omega)]
    refine Ok_ck (by omega) (by omega) (Ok_st (by omega) (by omega) (ih _ _ ⟨k + 1, by omega, by omega, by omega, by rw [List.length_set, h3], fun m hm => ?_, fun m hm => ?_⟩ (by omega)))
    · rw [Int.toNat_natCast]
      by_cases e2 : m = k
      · subst e2; rw [List.getElem?_set_self (by omega)]
      · rw [List.getElem?_set_ne (fun x => e2 x.symm)]; exact h4 m (by omega)
    · by_cases e2 : m = k
      · subst e2; rw [hE]; exact decide_eq_true e
      · exact h5 m (by omega)
  · exact Ok_cond (fun e => nomatch e) (fun _ => fin)
  · exact Ok_cond (fun e => nomatch e) (fun _ => fin)
/-- what the walk gives -/
structure MOk (m : List Int) (na nb : Nat) : Prop where
  len : m.length = na
  rng : ∀ (i : Nat) (v : Int), m[i]? = some v → -1 ≤ v ∧ v < nb
  up : ∀ (i j : Nat) (v w : Int), i < j → m[i]? = some v → m[j]? = some w → 0 ≤ v → 0 ≤ w → v < w
theorem walkM_low {E : Nat → Nat → Bool} {na nb : Nat} : ∀ (k i j : Nat), (na - i) + (nb - j) ≤ k → i ≤ na → (walkM E na nb i j).length = na - i ∧ ∀ (p : Nat) (v : Int), (walkM E na nb i j)[p]? = some v → v = -1 ∨ (j : Int) ≤ v ∧ v < nb := by
  intro k
  induction k with
  | zero =>
    intro i j h hi
    rw [walkM_z (by omega)]
    exact ⟨by simp; omega, fun p v h => by simp at h⟩
  | succ k ih =>
    intro i j h hi
    by_cases h0 : na ≤ i
    · rw [walkM_z h0]
      exact ⟨by simp; omega, fun p v h => by simp at h⟩
    have cons : ∀ {i' j' : Nat} {a : Int}, i' = i + 1 → j ≤ j' → (na - i') + (nb - j') ≤ k → (a = -1 ∨ (j : Int) ≤ a ∧ a < nb) → (a :: walkM E na nb i' j').length = na - i ∧ ∀ (p : Nat) (v : Int), (a :: walkM E na nb i' j')[p]? = some v → v = -1 ∨ (j : Int) ≤ v ∧ v < nb := by
      intro i' j' a hi' hj' hk ha
      subst hi'
      obtain ⟨g1, g2⟩ := ih (i + 1) j' hk (by omega)
      refine ⟨by rw [List.length_cons, g1]; omega, fun p v hv => ?_⟩
      cases p with
      | zero => obtain rfl := Option.some.inj hv; exact ha
      | succ p => have := g2 p v (by simpa using hv); omega
    by_cases h1 : nb ≤ j
    · rw [walkM_o (by omega) h1]; exact cons rfl (Nat.le_refl _) (by omega) (.inl rfl)
    · by_cases he : E i j = true
      · rw [walkM_e (by omega) (by omega) he]; exact cons rfl (by omega) (by omega) (.inr ⟨by omega, by omega⟩)
      · have he : E i j = false := by simpa using he
        by_cases hl : LC E na nb i (j + 1) ≤ LC E na nb (i + 1) j
        · rw [walkM_d (by omega) (by omega) he hl]; exact cons rfl (Nat.le_refl _) (by omega) (.inl rfl)
        · rw [walkM_r (by omega) (by omega) he hl]
          obtain ⟨g1, g2⟩ := ih i (j + 1) (by omega) (by omega)
          exact ⟨g1, fun p v hv => by have := g2 p v hv; omega⟩
theorem walkM_up {E : Nat → Nat → Bool} {na nb : Nat} : ∀ (k i j : Nat), (na - i) + (nb - j) ≤ k → ∀ (p q : Nat) (v w : Int), p < q → (walkM E na nb i j)[p]? = some v → (walkM E na nb i j)[q]? = some w → 0 ≤ v → 0 ≤ w → v < w := by
  intro k
  induction k with
  | zero =>
    intro i j h p q v w _ hv
    rw [walkM_z (by omega)] at hv
    simp at hv
  | succ k ih =>
    intro i j h
    by_cases h0 : na ≤ i
    · rw [walkM_z h0]; intro p q v w _ hv; simp at hv
    have cons : ∀ {i' j' : Nat} {a : Int}, i' = i + 1 → (na - i') + (nb - j') ≤ k → (a = -1 ∨ a < j') → ∀ (p q : Nat) (v w : Int), p < q → (a :: walkM E na nb i' j')[p]? = some v → (a :: walkM E na nb i' j')[q]? = some w → 0 ≤ v → 0 ≤ w → v < w := by
      intro i' j' a hi' hk ha p q v w hpq hv hw h1 h2
      subst hi'
      cases q with
      | zero => omega
      | succ q =>
        have hw' : (walkM E na nb (i + 1) j')[q]? = some w := by simpa using hw
        cases p with
        | zero =>
          obtain rfl : a = v := Option.some.inj hv
          have := (walkM_low k (i + 1) j' hk (by omega)).2 q w hw'
          omega
        | succ p => exact ih _ _ hk p q v w (by omega) (by simpa using hv) hw' h1 h2
    by_cases h1 : nb ≤ j
    · rw [walkM_o (by omega) h1]; exact cons rfl (by omega) (.inl rfl)
    · by_cases he : E i j = true
      · rw [walkM_e (by omega) (by omega) he]; exact cons rfl (by omega) (.inr (by omega))
      · have he : E i j = false := by simpa using he
        by_cases hl : LC E na nb i (j + 1) ≤ LC E na nb (i + 1) j
        · rw [walkM_d (by omega) (by omega) he hl]; exact cons rfl (by omega) (.inl rfl)
        · rw [walkM_r (by omega) (by omega) he hl]; exact ih _ _ (by omega)
theorem walkM_ok {E : Nat → Nat → Bool} {na nb : Nat} : MOk (walkM E na nb 0 0) na nb := by
  obtain ⟨h1, h2⟩ := walkM_low (E := E) (na := na) (nb := nb) _ 0 0 (Nat.le_refl _) (by omega)
  exact ⟨h1, fun i v hv => by have := h2 i v hv; omega, fun i j v w hij hv hw => walkM_up _ 0 0 (Nat.le_refl _) i j v w hij hv hw⟩
end Go.Proofs.Qxb6500350aGreat
