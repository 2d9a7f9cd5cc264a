/- THE PLAIN LAW of the table, part 2: a sound table. No Go in sight. -/
import Derived.Test.Qxb6500351aGreatPl1
set_option linter.unusedVariables false
set_option linter.unusedSimpArgs false
namespace Go.Proofs.Qxb6500351aGreat
open Go.Eng
def b2 (b : Bool) : Int := if b = true then 1 else 0
def cnt6 (P : Nat → Bool) : Int := b2 (P 0) + b2 (P 1) + b2 (P 2) + b2 (P 3) + b2 (P 4) + b2 (P 5)
theorem b2_b (b : Bool) : 0 ≤ b2 b ∧ b2 b ≤ 1 := by unfold b2; split <;> omega
theorem cnt6_b (P : Nat → Bool) : 0 ≤ cnt6 P ∧ cnt6 P ≤ 6 := by
  have h0 := b2_b (P 0); have h1 := b2_b (P 1); have h2 := b2_b (P 2); have h3 := b2_b (P 3); have h4 := b2_b (P 4); have h5 := b2_b (P 5)
  unfold cnt6; omega
theorem cnt6_one {P Q : Nat → Bool} (i : Nat) (hi : i < 6) (h : ∀ j, j < 6 → j ≠ i → P j = Q j) : cnt6 P + b2 (Q i) = cnt6 Q + b2 (P i) := by
  have qi : i = 0 ∨ i = 1 ∨ i = 2 ∨ i = 3 ∨ i = 4 ∨ i = 5 := by omega
  unfold cnt6
  rcases qi with rfl | rfl | rfl | rfl | rfl | rfl
  · rw [h 1 (by omega) (by omega), h 2 (by omega) (by omega), h 3 (by omega) (by omega), h 4 (by omega) (by omega), h 5 (by omega) (by omega)]; omega
  · rw [h 0 (by omega) (by omega), h 2 (by omega) (by omega), h 3 (by omega) (by omega), h 4 (by omega) (by omega), h 5 (by omega) (by omega)]; omega
  · rw [h 0 (by omega) (by omega), h 1 (by omega) (by omega), h 3 (by omega) (by omega), h 4 (by omega) (by omega), h 5 (by omega) (by omega)]; omega
  · rw [h 0 (by omega) (by omega), h 1 (by omega) (by omega), h 2 (by omega) (by omega), h 4 (by omega) (by omega), h 5 (by omega) (by omega)]; omega
  · rw [h 0 (by omega) (by omega), h 1 (by omega) (by omega), h 2 (by omega) (by omega), h 3 (by omega) (by omega), h 5 (by omega) (by omega)]; omega
  · rw [h 0 (by omega) (by omega), h 1 (by omega) (by omega), h 2 (by omega) (by omega), h 3 (by omega) (by omega), h 4 (by omega) (by omega)]; omega
theorem cnt6_congr {P Q : Nat → Bool} (h : ∀ j, j < 6 → P j = Q j) : cnt6 P = cnt6 Q := by
  unfold cnt6
  rw [h 0 (by omega), h 1 (by omega), h 2 (by omega), h 3 (by omega), h 4 (by omega), h 5 (by omega)]
theorem cnt6_pos {P : Nat → Bool} {i : Nat} (hi : i < 6) (h : P i = true) : 1 ≤ cnt6 P := by
  have h0 := b2_b (P 0); have h1 := b2_b (P 1); have h2 := b2_b (P 2); have h3 := b2_b (P 3); have h4 := b2_b (P 4); have h5 := b2_b (P 5)
  have hb : b2 (P i) = 1 := by unfold b2; rw [if_pos h]
  have qi : i = 0 ∨ i = 1 ∨ i = 2 ∨ i = 3 ∨ i = 4 ∨ i = 5 := by omega
  unfold cnt6
  rcases qi with rfl | rfl | rfl | rfl | rfl | rfl <;> omega
theorem cnt6_zero {P : Nat → Bool} (h : ∀ i, i < 6 → P i = false) : cnt6 P = 0 := by
  have := cnt6_congr (P := P) (Q := fun _ => false) h
  rw [this]; rfl
def cnt4 (P : Nat → Bool) : Int := b2 (P 0) + b2 (P 1) + b2 (P 2) + b2 (P 3)
theorem cnt4_one {P Q : Nat → Bool} (i : Nat) (hi : i < 4) (h : ∀ j, j < 4 → j ≠ i → P j = Q j) : cnt4 P + b2 (Q i) = cnt4 Q + b2 (P i) := by
  have qi : i = 0 ∨ i = 1 ∨ i = 2 ∨ i = 3 := by omega
  unfold cnt4
  rcases qi with rfl | rfl | rfl | rfl
  · rw [h 1 (by omega) (by omega), h 2 (by omega) (by omega), h 3 (by omega) (by omega)]; omega
  · rw [h 0 (by omega) (by omega), h 2 (by omega) (by omega), h 3 (by omega) (by omega)]; omega
  · rw [h 0 (by omega) (by omega), h 1 (by omega) (by omega), h 3 (by omega) (by omega)]; omega
  · rw [h 0 (by omega) (by omega), h 1 (by omega) (by omega), h 2 (by omega) (by omega)]; omega
theorem cnt4_congr {P Q : Nat → Bool} (h : ∀ j, j < 4 → P j = Q j) : cnt4 P = cnt4 Q := by
  unfold cnt4
  rw [h 0 (by omega), h 1 (by omega), h 2 (by omega), h 3 (by omega)]
theorem cnt4_lt {P : Nat → Bool} {i : Nat} (hi : i < 4) (h : P i = false) : cnt4 P ≤ 3 := by
  have h0 := b2_b (P 0); have h1 := b2_b (P 1); have h2 := b2_b (P 2); have h3 := b2_b (P 3)
  have hb : b2 (P i) = 0 := by unfold b2; rw [if_neg (by rw [h]; decide)]
  have qi : i = 0 ∨ i = 1 ∨ i = 2 ∨ i = 3 := by omega
  unfold cnt4
  rcases qi with rfl | rfl | rfl | rfl <;> omega
theorem cnt4_all {P : Nat → Bool} (h : ∀ i, i < 4 → P i = true) : cnt4 P = 4 := by
  have := cnt4_congr (P := P) (Q := fun _ => true) h
  rw [this]; rfl
theorem cnt4_le (P : Nat → Bool) : cnt4 P ≤ 4 := by
  have h0 := b2_b (P 0); have h1 := b2_b (P 1); have h2 := b2_b (P 2); have h3 := b2_b (P 3)
  unfold cnt4; omega
/-- is a listener; a child of lsd; .. -/
def isK (k : Int) (o : Option En) : Bool := match o with
  | none => false
  | some e => decide (e.kind = k)
def isKid (lsd : Int) (o : Option En) : Bool := match o with
  | none => false
  | some e => decide (e.parent = lsd)
structure LisE (e : En) : Prop where
  kind : e.kind = 1
  lp : 1 ≤ e.lPort ∧ e.lPort < 8
  parent : e.parent = 0
  ready : e.ready = false
  slot : e.slot = -1
structure ConE (e : En) : Prop where
  kind : e.kind = 2
  lp : 1 ≤ e.lPort ∧ e.lPort ≤ 15
  rh : 1 ≤ e.rHost ∧ e.rHost ≤ 255
  rp : 1 ≤ e.rPort ∧ e.rPort ≤ 15
  slot : 0 ≤ e.slot ∧ e.slot < 4
  ready : e.ready = true → e.parent ≠ 0
/-- what a table's entries, ports and blocks say -/
structure Tb.R (t : Tb) : Prop where
  sd : ∀ (i : Nat) (e : En), i < 6 → t.es i = some e → 1 ≤ e.sd ∧ e.sd < t.nextSd
  sdD : ∀ (i j : Nat) (e f : En), i < 6 → j < 6 → t.es i = some e → t.es j = some f → e.sd = f.sd → i = j
  kind : ∀ (i : Nat) (e : En), i < 6 → t.es i = some e → LisE e ∨ ConE e
  portA : ∀ (i : Nat) (e : En), i < 6 → t.es i = some e → e.kind = 1 → t.port e.lPort.toNat = (i : Int)
  portB : ∀ p : Nat, 1 ≤ p → p < 8 → t.port p = -1 ∨ ∃ (i : Nat) (e : En), i < 6 ∧ t.port p = (i : Int) ∧ t.es i = some e ∧ e.kind = 1 ∧ e.lPort = (p : Int)
  tup : ∀ (i j : Nat) (e f : En), i < 6 → j < 6 → t.es i = some e → t.es j = some f → e.kind = 2 → f.kind = 2 → f.tup e.lPort e.rHost e.rPort → i = j
  slots : ∀ (i j : Nat) (e f : En), i < 6 → j < 6 → t.es i = some e → t.es j = some f → e.kind = 2 → f.kind = 2 → e.slot = f.slot → i = j
  bits : ∀ s : Nat, s < 4 → (t.blocks.toNat.testBit s = true ↔ ∃ (i : Nat) (e : En), i < 6 ∧ t.es i = some e ∧ e.kind = 2 ∧ e.slot = (s : Int))
  par : ∀ (i : Nat) (e : En), i < 6 → t.es i = some e → e.parent ≠ 0 → ∃ (l : Nat) (f : En), l < 6 ∧ t.es l = some f ∧ f.kind = 1 ∧ f.sd = e.parent ∧ f.lPort = e.lPort
  lis : t.listeners = cnt6 (fun i => isK 1 (t.es i))
  next : 1 ≤ t.nextSd
  lis2 : t.listeners ≤ 2
  con : cnt4 (fun s => t.blocks.toNat.testBit s) = cnt6 (fun i => isK 2 (t.es i))
structure Tb.F (t : Tb) (fl : List Nat) : Prop where
  c : Chn t.nx t.free fl
  n : fl.Nodup
  m : ∀ i, i ∈ fl ↔ i < 6 ∧ t.es i = none
structure Tb.B (t : Tb) (bl : Nat → List Nat) : Prop where
  c : ∀ h, h < 4 → Chn t.nx (t.bucket h) (bl h)
  n : ∀ h, h < 4 → (bl h).Nodup
  m : ∀ h, h < 4 → ∀ i, i ∈ bl h ↔ i < 6 ∧ ∃ e, t.es i = some e ∧ e.kind = 2 ∧ e.hsh = h
/-- one listener's queue -/
structure Rw.Q (r : Rw) (q : List Int) : Prop where
  n : r.n = q.length
  len : q.length ≤ 2
  head : 0 ≤ r.head ∧ r.head < 2
  at0 : ∀ x, q[0]? = some x → r.ring r.head.toNat = x
  at1 : ∀ x, q[1]? = some x → r.ring (wrapF (r.head + 1)).toNat = x
structure Tb.Q (t : Tb) (q : Int → List Int) : Prop where
  rw : ∀ (l : Nat) (e : En), l < 6 → t.es l = some e → e.kind = 1 → (t.rows l).Q (q e.sd)
  nd : ∀ lsd, (q lsd).Nodup
  m : ∀ lsd sd, sd ∈ q lsd ↔ ∃ (i : Nat) (e : En), i < 6 ∧ t.es i = some e ∧ e.sd = sd ∧ e.kind = 2 ∧ e.parent = lsd ∧ e.ready = true
  kids : ∀ (l : Nat) (e : En), l < 6 → t.es l = some e → e.kind = 1 → (t.rows l).kids = cnt6 (fun i => isKid e.sd (t.es i)) ∧ (t.rows l).kids ≤ 2
structure Tb.Good (t : Tb) (q : Int → List Int) : Prop where
  r : t.R
  f : ∃ fl, t.F fl
  b : ∃ bl, t.B bl
  q : t.Q q
/-! ### looking -/
def Tb.at (t : Tb) (sd : Int) : Option En := if t.find sd = -1 then none else some (t.rows (t.find sd).toNat).e
theorem Tb.at_none {t : Tb} {sd : Int} : t.at sd = none ↔ t.find sd = -1 := by
  unfold Tb.at; split
  · rename_i h; simp [h]
  · rename_i h; simp [h]
theorem Tb.at_row {t : Tb} {sd : Int} {e : En} (h : t.at sd = some e) : ∃ i : Nat, i < 6 ∧ t.find sd = (i : Int) ∧ t.es i = some e ∧ e.sd = sd := by
  unfold Tb.at at h
  split at h
  · cases h
  · rename_i h1
    obtain ⟨i, f, k1, k2, k3, k4⟩ := Tb.find_yes h1
    rw [k2] at h
    simp only [Int.toNat_natCast, Option.some.injEq] at h
    have := (Tb.es_some.1 k3).2
    rw [this] at h; subst h
    exact ⟨i, k1, k2, k3, k4⟩
theorem Tb.R.at_of {t : Tb} (R : t.R) {i : Nat} {e : En} (hi : i < 6) (h : t.es i = some e) : t.at e.sd = some e ∧ t.find e.sd = (i : Int) := by
  by_cases hf : t.find e.sd = -1
  · exact absurd rfl (Tb.find_no hf i e hi h)
  · obtain ⟨j, f, k1, k2, k3, k4⟩ := Tb.find_yes hf
    have hij := R.sdD j i f e k1 hi k3 h k4
    subst hij
    refine ⟨?_, k2⟩
    unfold Tb.at
    rw [if_neg hf, k2]
    simp [(Tb.es_some.1 h).2]
theorem Tb.R.at_iff {t : Tb} (R : t.R) {sd : Int} {e : En} : t.at sd = some e ↔ e.sd = sd ∧ ∃ i : Nat, i < 6 ∧ t.es i = some e := by
  constructor
  · intro h
    obtain ⟨i, h1, _, h3, h4⟩ := Tb.at_row h
    exact ⟨h4, i, h1, h3⟩
  · rintro ⟨h1, i, h2, h3⟩
    subst h1
    exact (R.at_of h2 h3).1
theorem Tb.get_at (t : Tb) (sd : Int) : t.get sd = match t.at sd with
    | some e => (e, 0)
    | none => (En.zero, 21) := by
  unfold Tb.get Tb.at
  split <;> rfl
theorem Tb.R.lrow {t : Tb} (R : t.R) (p : Int) : (t.lrow p = -1 ∧ ∀ (i : Nat) (e : En), i < 6 → t.es i = some e → e.kind = 1 → e.lPort ≠ p) ∨ ∃ (l : Nat) (e : En), l < 6 ∧ t.lrow p = (l : Int) ∧ t.es l = some e ∧ e.kind = 1 ∧ e.lPort = p := by
  by_cases hp : p < 1 ∨ 8 ≤ p
  · refine .inl ⟨by unfold Tb.lrow; rw [if_pos hp], fun i e hi he hk hl => ?_⟩
    rcases R.kind i e hi he with h | h
    · have := h.lp; omega
    · have := h.kind; omega
  · have e1 : t.lrow p = t.port p.toNat := by unfold Tb.lrow; rw [if_neg hp]
    rcases R.portB p.toNat (by omega) (by omega) with h | ⟨i, e, k1, k2, k3, k4, k5⟩
    · refine .inl ⟨e1.trans h, fun i e hi he hk hl => ?_⟩
      have := R.portA i e hi he hk
      rw [hl, h] at this; omega
    · exact .inr ⟨i, e, k1, e1.trans k2, k3, k4, by omega⟩
theorem Tb.R.lis_eq {t : Tb} (R : t.R) (p : Int) : (t.lis p = 0 ∧ ∀ sd e, t.at sd = some e → e.kind = 1 → e.lPort ≠ p) ∨ ∃ e, t.at (t.lis p) = some e ∧ e.kind = 1 ∧ e.lPort = p ∧ e.sd = t.lis p ∧ 1 ≤ t.lis p := by
  rcases R.lrow p with ⟨h1, h2⟩ | ⟨l, e, h1, h2, h3, h4, h5⟩
  · refine .inl ⟨by unfold Tb.lis; rw [if_pos h1], fun sd e he => ?_⟩
    obtain ⟨i, k1, _, k3, _⟩ := Tb.at_row he
    exact h2 i e k1 k3
  · have e1 : t.lis p = e.sd := by
      unfold Tb.lis; rw [if_neg (by omega), h2]; simp [(Tb.es_some.1 h3).2]
    refine .inr ⟨e, ?_, h4, h5, e1.symm, ?_⟩
    · rw [e1]; exact (R.at_of h1 h3).1
    · rw [e1]; exact (R.sd l e h1 h3).1
/-- the lookup finds the connection with that tuple -/
theorem Tb.Good.lookup {t : Tb} {q : Int → List Int} (g : t.Good q) (a b c : Int) : (t.lookup a b c = 0 ∧ ∀ sd e, t.at sd = some e → e.kind = 2 → ¬ e.tup a b c) ∨ ∃ e, t.at (t.lookup a b c) = some e ∧ e.kind = 2 ∧ e.tup a b c ∧ e.sd = t.lookup a b c ∧ 1 ≤ t.lookup a b c := by
  obtain ⟨bl, B⟩ := g.b
  have hh := hashF_lt a b c
  have hl : (bl (hashF a b c)).length ≤ 6 := len_bnd' 6 _ (B.n _ hh) (fun i hi => ((B.m _ hh i).1 hi).1)
  by_cases hx : ∃ (i : Nat) (e : En), i < 6 ∧ t.es i = some e ∧ e.kind = 2 ∧ e.tup a b c
  · obtain ⟨i, e, h1, h2, h3, h4⟩ := hx
    have he : (t.rows i).e = e := (Tb.es_some.1 h2).2
    have hm : i ∈ bl (hashF a b c) := (B.m _ hh i).2 ⟨h1, e, h2, h3, by unfold En.hsh; rw [h4.1, h4.2.1, h4.2.2]⟩
    have e1 : t.lookup a b c = e.sd := by
      unfold Tb.lookup
      rw [Tb.chain_hit' (i := i) (by rw [he]; exact h4) 6 _ _ (B.c _ hh) hl hm, he]
      intro k hk hkt
      obtain ⟨k1, f, k2, k3, k4⟩ := (B.m _ hh k).1 hk
      rw [(Tb.es_some.1 k2).2] at hkt
      refine g.r.tup k i f e k1 h1 k2 h2 k3 h3 ?_
      exact ⟨h4.1.trans hkt.1.symm, h4.2.1.trans hkt.2.1.symm, h4.2.2.trans hkt.2.2.symm⟩
    refine .inr ⟨e, ?_, h3, h4, e1.symm, ?_⟩
    · rw [e1]; exact (g.r.at_of h1 h2).1
    · rw [e1]; exact (g.r.sd i e h1 h2).1
  · refine .inl ⟨?_, fun sd e he hk ht => ?_⟩
    · unfold Tb.lookup
      refine Tb.chain_no 6 _ _ (B.c _ hh) (fun k hk hkt => ?_)
      obtain ⟨k1, f, k2, k3, k4⟩ := (B.m _ hh k).1 hk
      rw [(Tb.es_some.1 k2).2] at hkt
      exact hx ⟨k, f, k1, k2, k3, hkt⟩
    · obtain ⟨i, k1, _, k3, _⟩ := Tb.at_row he
      exact hx ⟨i, e, k1, k3, hk, ht⟩
end Go.Proofs.Qxb6500351aGreat
