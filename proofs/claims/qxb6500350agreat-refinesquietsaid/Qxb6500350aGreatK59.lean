/- PLAIN LAW: DIFF (1): LINES; THE TABLE OF COMMON SUBSEQUENCES. -/
import Derived.Test.Qxb6500350aGreatK58
import Derived.Test.Qxb6500350aGreatT185
import Derived.Test.Qxb6500350aGreatT294
import Derived.Test.Qxb6500350aGreatT291
set_option linter.unusedVariables false
set_option linter.unusedSimpArgs false
set_option maxHeartbeats 2000000
namespace Go.Proofs.Qxb6500350aGreat
open Go.Eng Go
/-- lines -/
structure LinesOf (s : Str) (l : List Str) : Prop where
  flat : l.flatten = s
  ne : ∀ x, x ∈ l → x ≠ []
theorem flatten_len : ∀ {l : List Str}, (∀ x, x ∈ l → x ≠ []) → l.length ≤ l.flatten.length
  | [], _ => Nat.le_refl _
  | x :: l, h => by
    have h1 := flatten_len (l := l) (fun y hy => h y (List.mem_cons_of_mem _ hy))
    have h2 : x.length ≠ 0 := fun e => h x (by simp) (List.eq_nil_of_length_eq_zero e)
    rw [List.flatten_cons, List.length_append, List.length_cons]
    omega
theorem LinesOf.len {s : Str} {l : List Str} (h : LinesOf s l) : l.length ≤ s.length := by have := flatten_len h.ne; rwa [h.flat] at this
theorem split_ex {n : Nat} {s : Str} (hn : 100000 ≤ n) (hs : s.length ≤ 1024) : ∃ l, m185 n s = some l ∧ LinesOf s l := by
  suffices Ok (m185 n s) (LinesOf s) from this
  unfold m185
  refine Ok_ob3 ?_
  unfold m185_w1
  refine Ok_it3 (fun (l : List Str) (c1 c2 : Int) => 0 ≤ c1 ∧ c1 ≤ c2 ∧ c2 ≤ s.length ∧ l.flatten = s.take c1.toNat ∧ ∀ x, x ∈ l → x ≠ []) (fun _ _ (c2 : Int) => ((s.length : Int) - c2).toNat) ?_ n [] 0 0 ⟨by omega, by omega, by omega, by simp, by simp⟩ (by show ((s.length : Int) - 0).toNat < n; omega)
  rintro Q lp l c1 c2 hQ ⟨h1, h2, h3, h4, h5⟩ ih
  have hlen := flatten_len h5
  rw [h4, List.length_take] at hlen
  refine Ok_ite (fun hlt => Ok_sIx (by omega) hlt (fun x hx => ?_)) (fun hge => ?_)
  · rw [wi_e (by omega) (by omega)]
    refine Ok_ite (fun _ => Ok_sSl (by omega) (by omega) (by omega) (Ok_apd (by omega) (ih _ _ _ ⟨by omega, by omega, by omega, ?_, ?_⟩ (by omega)))) (fun _ => ih _ _ _ ⟨by omega, by omega, by omega, h4, h5⟩ (by omega))
    · rw [List.flatten_append, h4, List.flatten_singleton]
      have : (s.take (c2 + 1).toNat).take c1.toNat = s.take c1.toNat := by rw [List.take_take, Nat.min_eq_left (by omega)]
      rw [← this, List.take_append_drop]
    · intro y hy
      rcases List.mem_append.1 hy with hy | hy
      · exact h5 y hy
      · obtain rfl := List.mem_singleton.1 hy
        intro e
        have := congrArg List.length e
        simp only [List.length_drop, List.length_take, List.length_nil] at this
        omega
  · refine Ok.some' (hQ _ ?_)
    dsimp only
    refine Ok_ite (fun hlt => Ok_sSl (by omega) (by omega) (by omega) (Ok_apd (by omega) (Ok.some' ⟨?_, ?_⟩))) (fun hge2 => Ok.some' ⟨?_, h5⟩)
    · rw [List.flatten_append, h4, List.flatten_singleton]
      have : (s.take ((s.length : Int)).toNat).take c1.toNat = s.take c1.toNat := by rw [List.take_take, Nat.min_eq_left (by omega)]
      rw [← this, List.take_append_drop, Int.toNat_natCast, List.take_length]
    · intro y hy
      rcases List.mem_append.1 hy with hy | hy
      · exact h5 y hy
      · obtain rfl := List.mem_singleton.1 hy
        intro e
        have := congrArg List.length e
        simp only [List.length_drop, List.length_take, List.length_nil] at this
        omega
    · rw [h4, List.take_of_length_le (by omega)]
/-- the lines of s -/
def lin (n : Nat) (s : Str) : List Str := (m185 n s).getD []
theorem split_ok {n : Nat} {s : Str} (hn : 100000 ≤ n) (hs : s.length ≤ 1024) : m185 n s = some (lin n s) := by
  obtain ⟨l, h, _⟩ := split_ex hn hs
  unfold lin; rw [h]; rfl
theorem lin_of {n : Nat} {s : Str} (hn : 100000 ≤ n) (hs : s.length ≤ 1024) : LinesOf s (lin n s) := by
  obtain ⟨l, h, h2⟩ := split_ex hn hs
  unfold lin; rw [h]; exact h2
/-- longest common subsequences, by what is left -/
def lcsR (E : Nat → Nat → Bool) (na nb : Nat) : Nat → Nat → Nat
  | 0, _ => 0
  | _ + 1, 0 => 0
  | a + 1, b + 1 => if E (na - (a + 1)) (nb - (b + 1)) then lcsR E na nb a b + 1 else max (lcsR E na nb a (b + 1)) (lcsR E na nb (a + 1) b)
  termination_by a b => a + b
theorem lcsR_z1 {E : Nat → Nat → Bool} {na nb b : Nat} : lcsR E na nb 0 b = 0 := by rw [lcsR]
theorem lcsR_z2 {E : Nat → Nat → Bool} {na nb a : Nat} : lcsR E na nb a 0 = 0 := by cases a <;> rw [lcsR]
theorem lcsR_le {E : Nat → Nat → Bool} {na nb : Nat} : ∀ (m a b : Nat), a + b ≤ m → lcsR E na nb a b ≤ a
  | _, 0, b, _ => by rw [lcsR_z1]; exact Nat.le_refl _
  | _, a + 1, 0, _ => by rw [lcsR_z2]; omega
  | 0, a + 1, b + 1, h => by omega
  | m + 1, a + 1, b + 1, h => by
    rw [lcsR]
    have h1 := lcsR_le (E := E) (na := na) (nb := nb) m a b (by omega)
    have h2 := lcsR_le (E := E) (na := na) (nb := nb) m a (b + 1) (by omega)
    have h3 := lcsR_le (E := E) (na := na) (nb := nb) m (a + 1) b (by omega)
    split <;> omega
def LC (E : Nat → Nat → Bool) (na nb i j : Nat) : Int := (lcsR E na nb (na - i) (nb - j) : Nat)
section
variable {E : Nat → Nat → Bool} {na nb i j : Nat}
theorem LC_z (h : na ≤ i ∨ nb ≤ j) : LC E na nb i j = 0 := by
  unfold LC
  rcases h with h | h
  · rw [show na - i = 0 by omega, lcsR_z1]; rfl
  · rw [show nb - j = 0 by omega, lcsR_z2]; rfl
theorem LC_0 : 0 ≤ LC E na nb i j := by unfold LC; omega
theorem LC_le : LC E na nb i j ≤ na := by unfold LC; have := lcsR_le (E := E) (na := na) (nb := nb) _ (na - i) (nb - j) (Nat.le_refl _); omega
theorem LC_eq (hi : i < na) (hj : j < nb) (h : E i j = true) : LC E na nb i j = LC E na nb (i + 1) (j + 1) + 1 := by
  unfold LC
  obtain ⟨a, ha⟩ : ∃ a, na - i = a + 1 := ⟨na - i - 1, by omega⟩
  obtain ⟨b, hb⟩ : ∃ b, nb - j = b + 1 := ⟨nb - j - 1, by omega⟩
  rw [ha, hb, lcsR, show na - (a + 1) = i by omega, show nb - (b + 1) = j by omega, if_pos h, show na - (i + 1) = a by omega, show nb - (j + 1) = b by omega]
  omega
theorem LC_ne (hi : i < na) (hj : j < nb) (h : E i j = false) : LC E na nb i j = max (LC E na nb (i + 1) j) (LC E na nb i (j + 1)) := by
  unfold LC
  obtain ⟨a, ha⟩ : ∃ a, na - i = a + 1 := ⟨na - i - 1, by omega⟩
  obtain ⟨b, hb⟩ : ∃ b, nb - j = b + 1 := ⟨nb - j - 1, by omega⟩
  rw [ha, hb, lcsR, show na - (a + 1) = i by omega, show nb - (b + 1) = j by omega, h, if_neg (by simp), show na - (i + 1) = a by omega, show nb - (j + 1) = b by omega]
  omega
end
/-- one value set -/
def upd2 (f : Nat → Nat → Int) (p q : Nat) (v : Int) : Nat → Nat → Int := fun i j => if i = p ∧ j = q then v else f i j
theorem upd2_hit {f : Nat → Nat → Int} {p q : Nat} {v : Int} : upd2 f p q v p q = v := if_pos ⟨rfl, rfl⟩
theorem upd2_ne {f : Nat → Nat → Int} {p q i j : Nat} {v : Int} (h : ¬ (i = p ∧ j = q)) : upd2 f p q v i j = f i j := if_neg h
/-- a table of rows -/
structure Rows2 (l : List (List Int)) (na nb : Nat) (f : Nat → Nat → Int) : Prop where
  len : l.length = na + 1
  row : ∀ i row, l[i]? = some row → row.length = nb + 1 ∧ ∀ j v, row[j]? = some v → v = f i j
theorem Rows2.set {l : List (List Int)} {na nb : Nat} {f : Nat → Nat → Int} (h : Rows2 l na nb f) {i j : Nat} {row : List Int} {v : Int} (hi : i ≤ na) (hj : j ≤ nb) (hr : l[i]? = some row) : Rows2 (l.set i (row.set j v)) na nb (upd2 f i j v) := by
  have hrw := h.row i row hr
  refine ⟨by rw [List.length_set, h.len], fun i' row' hr' => ?_⟩
  by_cases e : i' = i
  · subst e
    rw [List.getElem?_set_self (by rw [h.len]; omega)] at hr'
    obtain rfl := Option.some.inj hr'
    refine ⟨by rw [List.length_set, hrw.1], fun j' v' hv' => ?_⟩
    by_cases e2 : j' = j
    · subst e2
      rw [List.getElem?_set_self (by rw [hrw.1]; omega)] at hv'
      rw [upd2_hit]; exact (Option.some.inj hv').symm
    · rw [List.getElem?_set_ne (fun x => e2 x.symm)] at hv'
      rw [upd2_ne (fun x => e2 x.2)]; exact hrw.2 j' v' hv'
  · rw [List.getElem?_set_ne (fun x => e x.symm)] at hr'
    have := h.row i' row' hr'
    exact ⟨this.1, fun j' v' hv' => by rw [upd2_ne (fun x => e x.1)]; exact this.2 j' v' hv'⟩
/-- the table is right behind (p, q) -/
def Done2 (E : Nat → Nat → Bool) (na nb : Nat) (f : Nat → Nat → Int) (p q : Int) : Prop := ∀ i j : Nat, i ≤ na → j ≤ nb → (p < i ∨ p = i ∧ q < j ∨ j = nb) → f i j = LC E na nb i j
theorem Done2.upd {E : Nat → Nat → Bool} {na nb : Nat} {f : Nat → Nat → Int} {p q : Nat} {v : Int} (h : Done2 E na nb f p q) (hv : v = LC E na nb p q) : Done2 E na nb (upd2 f p q v) p ((q : Int) - 1) := by
  intro i j hi hj hc
  by_cases e : i = p ∧ j = q
  · obtain ⟨rfl, rfl⟩ := e; rw [upd2_hit, hv]
  · rw [upd2_ne e]; exact h i j hi hj (by omega)
theorem Done2.next {E : Nat → Nat → Bool} {na nb : Nat} {f : Nat → Nat → Int} {p : Nat} {q : Int} (h : Done2 E na nb f p q) (hq : q < 0) : Done2 E na nb f ((p : Int) - 1) ((nb : Int) - 1) := fun i j hi hj hc => h i j hi hj (by omega)
/-- equality of lines -/
def eqE {α : Type} [DecidableEq α] (a b : List α) : Nat → Nat → Bool := fun i j => decide (a[i]? = b[j]?)
theorem eqE_of {α : Type} [DecidableEq α] {a b : List α} {i j : Nat} {x y : α} (hx : a[i]? = some x) (hy : b[j]? = some y) : eqE a b i j = decide (x = y) := by
  unfold eqE; rw [hx, hy]; simp
theorem lcs_ok {n : Nat} {a b : List Str} (hn : 100000 ≤ n) (ha : a.length ≤ 1024) (hb : b.length ≤ 1024) :
    ∃ l, m294 n a b = some l ∧ Rows2 l a.length b.length (LC (eqE a b) a.length b.length) := by
  suffices Ok (m294 n a b) (fun l => Rows2 l a.length b.length (LC (eqE a b) a.length b.length)) from this
  unfold m294
  rw [wi_e (by omega) (by omega)]
  refine Ok_mk (by omega) (by omega) (by omega) (Ok_ob2 ?_)
  unfold m294_w1
  refine Ok_it2 (fun (c : Int) (l : List (List Int)) => 0 ≤ c ∧ c ≤ a.length + 1 ∧ l.length = a.length + 1 ∧ ∀ i : Nat, (i : Int) < c → l[i]? = some (List.replicate (b.length + 1) 0)) (fun (c : Int) _ => ((a.length : Int) + 1 - c).toNat) ?_ n 0 _ ⟨by omega, by omega, by rw [List.length_replicate]; omega, fun i hi => by omega⟩ (by show ((a.length : Int) + 1 - 0).toNat < n; omega)
  rintro Q lp c l hQ ⟨h1, h2, h3, h4⟩ ih
  refine Ok_ite (fun hle => ?_) (fun hgt => ?_)
  · rw [wi_e (by omega) (by omega), wi_e (by omega) (by omega)]
    refine Ok_mk (by omega) (by omega) (by omega) (Ok_ck (by omega) (by omega) (Ok_st (by omega) (by omega) (ih _ _ ⟨by omega, by omega, by rw [List.length_set, h3], fun i hi => ?_⟩ (by omega))))
    by_cases e : i = c.toNat
    · subst e
      rw [List.getElem?_set_self (by omega), show ((b.length : Int) + 1).toNat = b.length + 1 by omega]
    · rw [List.getElem?_set_ne (fun x => e x.symm)]; exact h4 i (by omega)
  refine Ok.some' (hQ _ ?_)
  dsimp only
  refine Ok_ob2 ?_
  have hc : c = a.length + 1 := by omega
  subst hc
  clear ih
  unfold m294_w2
  rw [wi_e (x := (a.length : Int) - 1) (by omega) (by omega)]
  refine Ok_it2 (fun (p : Int) (l : List (List Int)) => -1 ≤ p ∧ p < a.length ∧ ∃ f, Rows2 l a.length b.length f ∧ Done2 (eqE a b) a.length b.length f p ((b.length : Int) - 1)) (fun (p : Int) _ => (p + 1).toNat) ?_ n _ l
    ⟨by omega, by omega, fun _ _ => 0, ⟨h3, fun i row hr => ?_⟩, fun i j hi hj hc => ?_⟩ (by show ((a.length : Int) - 1 + 1).toNat < n; omega)
  rotate_left
  · have hi := (List.getElem?_eq_some_iff.1 hr).1
    rw [h4 i (by omega)] at hr
    obtain rfl := Option.some.inj hr
    refine ⟨by simp, fun j v hv => ?_⟩
    rw [List.getElem?_replicate] at hv
    split at hv
    · exact (Option.some.inj hv).symm
    · cases hv
  · rw [LC_z (by omega)]
  rintro Q2 lp2 p l2 hQ2 ⟨p1, p2, f, hR, hD⟩ ih2
  refine Ok_ite (fun hp => ?_) (fun hp => ?_)
  · rw [wi_e (by omega) (by omega)]
    refine Ok_ob2 ?_
    unfold m294_w3
    obtain ⟨k, rfl⟩ : ∃ k : Nat, p = k := ⟨p.toNat, by omega⟩
    refine Ok_it2 (fun (q : Int) (l : List (List Int)) => -1 ≤ q ∧ q < b.length ∧ ∃ f, Rows2 l a.length b.length f ∧ Done2 (eqE a b) a.length b.length f k q) (fun (q : Int) _ => (q + 1).toNat) ?_ n _ l2
      ⟨by omega, by omega, f, hR, hD⟩ (by show ((b.length : Int) - 1 + 1).toNat < n; omega)
    rintro Q3 lp3 q l3 hQ3 ⟨q1, q2, f3, hR3, hD3⟩ ih3
    refine Ok_ite (fun hq => ?_) (fun hq => ?_)
    · obtain ⟨m, rfl⟩ : ∃ m : Nat, q = m := ⟨q.toNat, by omega⟩
      have hkl : (k : Int) < l3.length := by rw [hR3.len]; omega
      refine Ok_ix (by omega) p2 (fun x hx => Ok_ix (by omega) q2 (fun y hy => ?_))
      rw [Int.toNat_natCast] at hx hy
      have hE := eqE_of hx hy
      rw [wi_e (show -(9223372036854775808 : Int) ≤ (m : Int) - 1 by omega) (by omega), wi_e (show -(9223372036854775808 : Int) ≤ (k : Int) + 1 by omega) (by omega), wi_e (show -(9223372036854775808 : Int) ≤ (m : Int) + 1 by omega) (by omega)]
      have rd : ∀ {i j : Nat} {row : List Int} {v : Int}, i ≤ a.length → j ≤ b.length → l3[i]? = some row → row[j]? = some v → (k < i ∨ k = i ∧ m < j) → v = LC (eqE a b) a.length b.length i j := by
        intro i j row v hi hj hr hv hc
        rw [(hR3.row i row hr).2 j v hv]
        exact hD3 i j hi hj (by omega)
      refine Ok_ite (fun e => ?_) (fun e => ?_)
      · refine Ok_ix (by omega) hkl (fun r0 hr0 => Ok_ix (by omega) (by rw [hR3.len]; omega) (fun r1 hr1 => ?_))
        rw [Int.toNat_natCast] at hr0
        rw [show ((k : Int) + 1).toNat = k + 1 by omega] at hr1
        have hl0 := (hR3.row _ _ hr0).1
        have hl1 := (hR3.row _ _ hr1).1
        refine Ok_ix (by omega) (by omega) (fun v hv => ?_)
        rw [show ((m : Int) + 1).toNat = m + 1 by omega] at hv
        have hv' := rd (by omega) (by omega) hr1 hv (by omega)
        have h0 := LC_0 (E := eqE a b) (na := a.length) (nb := b.length) (i := k + 1) (j := m + 1)
        have h1 := LC_le (E := eqE a b) (na := a.length) (nb := b.length) (i := k + 1) (j := m + 1)
        rw [wi_e (by omega) (by omega)]
        refine Ok_ck (by omega) (by omega) (Ok_st (by omega) (by omega) (Ok_nm (ih3 _ _ ⟨by omega, by omega, _, hR3.set (i := k) (j := m) (by omega) (by omega) hr0, ?_⟩ (by omega))))
        refine hD3.upd ?_
        rw [LC_eq (by omega) (by omega) (by rw [hE]; exact decide_eq_true e), hv']
      · have hne : eqE a b k m = false := by rw [hE]; exact decide_eq_false e
        refine Ok_ix (by omega) (by rw [hR3.len]; omega) (fun r1 hr1 => ?_)
        rw [show ((k : Int) + 1).toNat = k + 1 by omega] at hr1
        have hl1 := (hR3.row _ _ hr1).1
        refine Ok_ix (by omega) (by omega) (fun v1 hv1 => Ok_ix (by omega) hkl (fun r0 hr0 => ?_))
        rw [Int.toNat_natCast] at hv1 hr0
        have hl0 := (hR3.row _ _ hr0).1
        refine Ok_ix (by omega) (by omega) (fun v0 hv0 => ?_)
        rw [show ((m : Int) + 1).toNat = m + 1 by omega] at hv0
        have e1 := rd (by omega) (by omega) hr1 hv1 (by omega)
        have e0 := rd (by omega) (by omega) hr0 hv0 (by omega)
        have hmx := LC_ne (E := eqE a b) (na := a.length) (nb := b.length) (i := k) (j := m) (by omega) (by omega) hne
        refine Ok_ite (fun hle => ?_) (fun hlt => ?_)
        · refine Ok_ix (by omega) hkl (fun r0' hr0' => Ok_ix (by omega) (by rw [hR3.len]; omega) (fun r1' hr1' => ?_))
          rw [Int.toNat_natCast] at hr0'
          rw [show ((k : Int) + 1).toNat = k + 1 by omega] at hr1'
          obtain rfl : r0 = r0' := Option.some.inj (hr0.symm.trans hr0')
          obtain rfl : r1 = r1' := Option.some.inj (hr1.symm.trans hr1')
          refine Ok_ix (by omega) (by omega) (fun v hv => ?_)
          rw [Int.toNat_natCast] at hv
          obtain rfl : v1 = v := Option.some.inj (hv1.symm.trans hv)
          exact Ok_ck (by omega) (by omega) (Ok_st (by omega) (by omega) (Ok_nm (ih3 _ _ ⟨by omega, by omega, _, hR3.set (i := k) (j := m) (by omega) (by omega) hr0, hD3.upd (by omega)⟩ (by omega))))
        · refine Ok_ix (by omega) hkl (fun r0' hr0' => Ok_ix (by omega) hkl (fun r0'' hr0'' => ?_))
          rw [Int.toNat_natCast] at hr0' hr0''
          obtain rfl : r0 = r0' := Option.some.inj (hr0.symm.trans hr0')
          obtain rfl : r0 = r0'' := Option.some.inj (hr0.symm.trans hr0'')
          refine Ok_ix (by omega) (by omega) (fun v hv => ?_)
          rw [show ((m : Int) + 1).toNat = m + 1 by omega] at hv
          obtain rfl : v0 = v := Option.some.inj (hv0.symm.trans hv)
          exact Ok_ck (by omega) (by omega) (Ok_st (by omega) (by omega) (Ok_nm (ih3 _ _ ⟨by omega, by omega, _, hR3.set (i := k) (j := m) (by omega) (by omega) hr0, hD3.upd (by omega)⟩ (by omega))))
    · refine Ok.some' (hQ3 _ ?_)
      dsimp only
      rw [wi_e (x := (k : Int) - 1) (by omega) (by omega)]
      exact ih2 _ _ ⟨by omega, by omega, f3, hR3, hD3.next (by omega)⟩ (by omega)
  · refine Ok.some' (hQ2 _ (Ok.some' ?_))
    refine ⟨hR.len, fun i row hr => ⟨(hR.row i row hr).1, fun j v hv => ?_⟩⟩
    have hi := (List.getElem?_eq_some_iff.1 hr).1
    have hj := (List.getElem?_eq_some_iff.1 hv).1
    rw [(hR.row i row hr).1] at hj
    rw [hR.len] at hi
    rw [(hR.row i row hr).2 j v hv]
    exact hD i j (by omega) (by omega) (by omega)
end Go.Proofs.Qxb6500350aGreat
