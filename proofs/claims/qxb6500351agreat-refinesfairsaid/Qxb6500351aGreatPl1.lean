/- THE PLAIN LAW of the table, part 1: chains. No Go in sight. -/
import Derived.Test.Qxb6500351aGreatMd14
set_option linter.unusedVariables false
set_option linter.unusedSimpArgs false
namespace Go.Proofs.Qxb6500351aGreat
open Go.Eng
theorem upA_ne {α : Type} (f : Nat → α) {k j : Nat} (x : α) (h : j ≠ k) : upA f k x j = f j := by simp [upA, h]
/-- the places on the chain from j on -/
def Chn (nx : Nat → Int) : Int → List Nat → Prop
  | j, [] => j = -1
  | j, a :: l => j = (a : Int) ∧ Chn nx (nx a) l
theorem Chn.congr {nx nx' : Nat → Int} : ∀ {l : List Nat} {j : Int}, (∀ i, i ∈ l → nx i = nx' i) → Chn nx j l → Chn nx' j l
  | [], j, _, h => h
  | a :: l, j, he, h => ⟨h.1, by rw [← he a (List.mem_cons_self ..)]; exact Chn.congr (fun i hi => he i (List.mem_cons_of_mem _ hi)) h.2⟩
theorem Chn.nil {nx : Nat → Int} {l : List Nat} (h : Chn nx (-1) l) : l = [] := by
  cases l with
  | nil => rfl
  | cons a l => have := h.1; omega
theorem Chn.cons {nx : Nat → Int} {j : Int} {l : List Nat} (h : Chn nx j l) (hj : ¬ j = -1) : ∃ l', l = j.toNat :: l' ∧ j = (j.toNat : Int) ∧ Chn nx (nx j.toNat) l' := by
  cases l with
  | nil => exact absurd h hj
  | cons a l =>
    have h1 := h.1
    subst h1
    exact ⟨l, by simp, by simp, by simpa using h.2⟩
theorem len_bnd' : ∀ (n : Nat) (l : List Nat), l.Nodup → (∀ i, i ∈ l → i < n) → l.length ≤ n
  | 0, l, _, hb => by
    cases l with
    | nil => exact Nat.le_refl _
    | cons a l => exact absurd (hb a (List.mem_cons_self ..)) (by omega)
  | n + 1, l, hn, hb => by
    have h1 := len_bnd' n (l.erase n) (hn.erase n) (fun i hi => by
      have h2 := hb i (List.mem_of_mem_erase hi)
      have h3 : i ≠ n := fun e => by subst e; exact (hn.not_mem_erase) hi
      omega)
    have h2 := List.length_erase (a := n) (l := l)
    split at h2 <;> omega
def Tb.nx (t : Tb) (i : Nat) : Int := (t.rows i).nxt_
def Tb.es (t : Tb) (i : Nat) : Option En := if (t.rows i).used = true then some (t.rows i).e else none
def En.hsh (e : En) : Nat := hashF e.lPort e.rHost e.rPort
def En.tup (e : En) (a b c : Int) : Prop := e.lPort = a ∧ e.rHost = b ∧ e.rPort = c
theorem Tb.es_some {t : Tb} {i : Nat} {e : En} : t.es i = some e ↔ (t.rows i).used = true ∧ (t.rows i).e = e := by
  unfold Tb.es; split
  · rename_i h; simp [h]
  · rename_i h; simp [h]
theorem Tb.es_none {t : Tb} {i : Nat} : t.es i = none ↔ (t.rows i).used = false := by
  unfold Tb.es; split
  · rename_i h; simp [h]
  · rename_i h; simp [h]
/-- the walk along a chain finds the row with the tuple, if there is one -/
theorem Tb.chain_hit' {t : Tb} {a b c : Int} {i : Nat} (hi : (t.rows i).e.tup a b c) : ∀ (f : Nat) (l : List Nat) (j : Int), Chn t.nx j l → l.length ≤ f → i ∈ l → (∀ k, k ∈ l → (t.rows k).e.tup a b c → k = i) → t.chain a b c f j = (t.rows i).e.sd
  | 0, l, j, _, hl, hm, _ => by
    have : l = [] := List.eq_nil_of_length_eq_zero (by omega)
    subst this; cases hm
  | f + 1, [], j, _, hl, hm, _ => by cases hm
  | f + 1, k :: l, j, hc, hl, hm, hu => by
    obtain ⟨h1, h2⟩ := hc
    subst h1
    unfold Tb.chain
    rw [if_neg (by omega)]
    simp only [Int.toNat_natCast]
    by_cases hk : (t.rows k).e.tup a b c
    · have := hu k (List.mem_cons_self ..) hk
      subst this
      exact if_pos hk
    · refine (if_neg hk).trans ?_
      have hne : i ≠ k := fun e => by subst e; exact hk hi
      exact Tb.chain_hit' hi f l _ h2 (by simp only [List.length_cons] at hl; omega) ((List.mem_cons.1 hm).resolve_left hne) (fun k' hk' => hu k' (List.mem_cons_of_mem _ hk'))
theorem Tb.chain_no {t : Tb} {a b c : Int} : ∀ (f : Nat) (l : List Nat) (j : Int), Chn t.nx j l → (∀ k, k ∈ l → ¬ (t.rows k).e.tup a b c) → t.chain a b c f j = 0
  | 0, l, j, _, _ => rfl
  | f + 1, [], j, hc, _ => by
    unfold Tb.chain; exact if_pos hc
  | f + 1, k :: l, j, hc, hu => by
    obtain ⟨h1, h2⟩ := hc
    subst h1
    unfold Tb.chain
    rw [if_neg (by omega)]
    simp only [Int.toNat_natCast]
    refine (if_neg (hu k (List.mem_cons_self ..))).trans ?_
    exact Tb.chain_no f l _ h2 (fun k' hk' => hu k' (List.mem_cons_of_mem _ hk'))
/-- a row is taken out of a chain behind its head -/
theorem Tb.unl_spec (t : Tb) (i : Nat) : ∀ (l : List Nat) (f a : Nat) (j : Int), Chn t.nx j (a :: l) → (a :: l).Nodup → i ∈ l → l.length ≤ f →
    ∃ p, p ∈ a :: l ∧ p ≠ i ∧ t.unl i (f + 1) j = { t with rows := upA t.rows p { (t.rows p) with nxt_ := t.nx i } } ∧ Chn (upA t.nx p (t.nx i)) j ((a :: l).erase i)
  | [], f, a, j, _, _, hm, _ => by cases hm
  | b :: l, f, a, j, hc, hn, hm, hf => by
    obtain ⟨h1, h2⟩ := hc
    subst h1
    have ha : a ≠ i := fun e => by subst e; exact (List.nodup_cons.1 hn).1 hm
    have hnb := (List.nodup_cons.1 hn).2
    have hab : a ∉ b :: l := (List.nodup_cons.1 hn).1
    unfold Tb.unl
    rw [if_neg (by omega)]
    simp only [Int.toNat_natCast]
    have hb : (t.rows a).nxt_ = (b : Int) := h2.1
    by_cases hbi : b = i
    · subst hbi
      refine ⟨a, List.mem_cons_self .., ha, by rw [if_pos hb]; rfl, ?_⟩
      rw [List.erase_cons_tail (by simpa using ha), List.erase_cons_head]
      refine ⟨rfl, ?_⟩
      rw [upA_at]
      exact Chn.congr (fun k hk => by rw [upA_ne]; intro e; subst e; exact hab (List.mem_cons_of_mem _ hk)) h2.2
    · rw [if_neg (by rw [hb]; omega)]
      have hil : i ∈ l := (List.mem_cons.1 hm).resolve_left (fun e => hbi e.symm)
      obtain ⟨f', rfl⟩ : ∃ f', f = f' + 1 := ⟨f - 1, by simp only [List.length_cons] at hf; omega⟩
      obtain ⟨p, k1, k2, k3, k4⟩ := Tb.unl_spec t i l f' b _ h2 hnb hil (by simp only [List.length_cons] at hf; omega)
      refine ⟨p, List.mem_cons_of_mem _ k1, k2, k3, ?_⟩
      rw [List.erase_cons_tail (by simpa using ha)]
      refine ⟨rfl, ?_⟩
      rw [upA_ne _ _ (fun e => by subst e; exact hab k1)]
      exact k4
/-! ### first hits -/
theorem firstI_spec (P : Nat → Bool) : ∀ (f i : Nat), (firstI P f i = -1 ∧ ∀ k, i ≤ k → k < i + f → P k = false) ∨ (∃ k, i ≤ k ∧ k < i + f ∧ P k = true ∧ firstI P f i = k ∧ ∀ m, i ≤ m → m < k → P m = false)
  | 0, i => .inl ⟨rfl, fun k h1 h2 => by omega⟩
  | f + 1, i => by
    unfold firstI
    by_cases h : P i = true
    · rw [if_pos h]
      exact .inr ⟨i, Nat.le_refl _, by omega, h, rfl, fun m h1 h2 => by omega⟩
    · rw [if_neg h]
      rcases firstI_spec P f (i + 1) with ⟨h1, h2⟩ | ⟨k, h1, h2, h3, h4, h5⟩
      · refine .inl ⟨h1, fun k k1 k2 => ?_⟩
        by_cases hk : k = i
        · subst hk; simpa using h
        · exact h2 k (by omega) (by omega)
      · refine .inr ⟨k, by omega, by omega, h3, h4, fun m m1 m2 => ?_⟩
        by_cases hk : m = i
        · subst hk; simpa using h
        · exact h5 m (by omega) m2
theorem Tb.find_no {t : Tb} {sd : Int} (h : t.find sd = -1) : ∀ (i : Nat) (e : En), i < 6 → t.es i = some e → e.sd ≠ sd := by
  intro i e hi he hs
  obtain ⟨h1, h2⟩ := Tb.es_some.1 he
  rcases firstI_spec (t.isSd sd) 6 0 with ⟨_, k2⟩ | ⟨k, _, _, _, k4, _⟩
  · have := k2 i (by omega) (by omega)
    simp [Tb.isSd, h1, h2, hs] at this
  · unfold Tb.find at h; omega
theorem Tb.find_yes {t : Tb} {sd : Int} (h : ¬ t.find sd = -1) : ∃ (i : Nat) (e : En), i < 6 ∧ t.find sd = (i : Int) ∧ t.es i = some e ∧ e.sd = sd := by
  rcases firstI_spec (t.isSd sd) 6 0 with ⟨k1, _⟩ | ⟨k, _, k2, k3, k4, _⟩
  · exact absurd k1 h
  · simp only [Tb.isSd, Bool.and_eq_true, decide_eq_true_eq] at k3
    exact ⟨k, _, by omega, k4, Tb.es_some.2 ⟨k3.1, rfl⟩, k3.2⟩
theorem Tb.low_no {t : Tb} (h : t.low = -1) : ∀ s, s < 4 → t.blocks.toNat.testBit s = true := by
  intro s hs
  rcases firstI_spec t.freeB 4 0 with ⟨_, k2⟩ | ⟨k, _, _, _, k4, _⟩
  · have := k2 s (by omega) (by omega)
    simp only [Tb.freeB, decide_eq_false_iff_not] at this
    cases ht : t.blocks.toNat.testBit s with
    | true => rfl
    | false => exact absurd ((nand_zero _ _).2 ht) this
  · unfold Tb.low at h; omega
theorem Tb.low_yes {t : Tb} (h : ¬ t.low = -1) : ∃ s : Nat, s < 4 ∧ t.low = (s : Int) ∧ t.blocks.toNat.testBit s = false := by
  rcases firstI_spec t.freeB 4 0 with ⟨k1, _⟩ | ⟨k, _, k2, k3, k4, _⟩
  · exact absurd k1 h
  · simp only [Tb.freeB, decide_eq_true_eq] at k3
    exact ⟨k, by omega, k4, (nand_zero _ _).1 k3⟩
end Go.Proofs.Qxb6500351aGreat
