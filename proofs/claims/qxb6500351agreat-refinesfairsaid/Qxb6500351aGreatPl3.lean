/- THE PLAIN LAW of the table, part 3: entries come, change, go. No Go in sight. -/
import Derived.Test.Qxb6500351aGreatPl2
set_option linter.unusedVariables false
set_option linter.unusedSimpArgs false
namespace Go.Proofs.Qxb6500351aGreat
open Go.Eng
structure Sim (e f : En) : Prop where
  sd : e.sd = f.sd
  kind : e.kind = f.kind
  lp : e.lPort = f.lPort
  rh : e.rHost = f.rHost
  rp : e.rPort = f.rPort
  slot : e.slot = f.slot
theorem Sim.refl (e : En) : Sim e e := ⟨rfl, rfl, rfl, rfl, rfl, rfl⟩
theorem Sim.hsh {e f : En} (h : Sim e f) : e.hsh = f.hsh := by unfold En.hsh; rw [h.lp, h.rh, h.rp]
def EsSim (a b : Option En) : Prop := match a, b with
  | none, none => True
  | some e, some f => Sim e f
  | _, _ => False
theorem EsSim.some1 {a : Option En} {f : En} (h : EsSim a (some f)) : ∃ e, a = some e ∧ Sim e f := by
  cases a with
  | none => exact h.elim
  | some e => exact ⟨e, rfl, h⟩
theorem EsSim.some2 {b : Option En} {e : En} (h : EsSim (some e) b) : ∃ f, b = some f ∧ Sim e f := by
  cases b with
  | none => exact h.elim
  | some f => exact ⟨f, rfl, h⟩
theorem EsSim.refl (a : Option En) : EsSim a a := by
  cases a with
  | none => trivial
  | some e => exact Sim.refl e
theorem EsSim.of {a b : Option En} (h : a = b) : EsSim a b := h ▸ EsSim.refl a
theorem EsSim.none {a b : Option En} (h : EsSim a b) : a = none ↔ b = none := by
  cases a <;> cases b <;> simp_all [EsSim]
/-- entries change only in parent and ready -/
theorem Tb.R.mod {t u : Tb} (R : t.R) (hs : ∀ j, j < 6 → EsSim (t.es j) (u.es j)) (h1 : u.port = t.port) (h2 : u.blocks = t.blocks) (h3 : u.listeners = t.listeners) (h4 : u.nextSd = t.nextSd)
    (h5 : ∀ j e f, j < 6 → t.es j = some e → u.es j = some f → (f.parent = e.parent ∨ (e.kind = 2 ∧ f.parent = 0)) ∧ (f.ready = true → f.parent ≠ 0) ∧ (e.kind = 1 → f.ready = false)) : u.R := by
  have back : ∀ (j : Nat) (f : En), j < 6 → u.es j = some f → ∃ e, t.es j = some e ∧ Sim e f := fun j f hj hf => by
    have := hs j hj
    rw [hf] at this
    exact this.some1
  have fwd : ∀ (j : Nat) (e : En), j < 6 → t.es j = some e → ∃ f, u.es j = some f ∧ Sim e f := fun j f hj hf => by
    have := hs j hj
    rw [hf] at this
    exact this.some2
  refine ⟨?_, ?_, ?_, ?_, ?_, ?_, ?_, ?_, ?_, ?_, ?_, ?_, ?_⟩
  · intro i f hi hf
    obtain ⟨e, k1, k2⟩ := back i f hi hf
    rw [← k2.sd, h4]; exact R.sd i e hi k1
  · intro i j f f' hi hj hf hf' hsd
    obtain ⟨e, k1, k2⟩ := back i f hi hf
    obtain ⟨e', k1', k2'⟩ := back j f' hj hf'
    exact R.sdD i j e e' hi hj k1 k1' (by rw [k2.sd, k2'.sd]; exact hsd)
  · intro i f hi hf
    obtain ⟨e, k1, k2⟩ := back i f hi hf
    obtain ⟨p1, p2, p3⟩ := h5 i e f hi k1 hf
    rcases R.kind i e hi k1 with h | h
    · refine .inl ⟨k2.kind ▸ h.kind, k2.lp ▸ h.lp, ?_, p3 h.kind, k2.slot ▸ h.slot⟩
      rcases p1 with p1 | p1
      · rw [p1]; exact h.parent
      · exact p1.2
    · exact .inr ⟨k2.kind ▸ h.kind, k2.lp ▸ h.lp, k2.rh ▸ h.rh, k2.rp ▸ h.rp, k2.slot ▸ h.slot, p2⟩
  · intro i f hi hf hk
    obtain ⟨e, k1, k2⟩ := back i f hi hf
    rw [h1, ← k2.lp]; exact R.portA i e hi k1 (k2.kind.trans hk)
  · intro p p1 p2
    rw [h1]
    rcases R.portB p p1 p2 with h | ⟨i, e, k1, k2, k3, k4, k5⟩
    · exact .inl h
    · obtain ⟨f, q1, q2⟩ := fwd i e k1 k3
      exact .inr ⟨i, f, k1, k2, q1, q2.kind ▸ k4, q2.lp ▸ k5⟩
  · intro i j f f' hi hj hf hf' hk hk' ht
    obtain ⟨e, k1, k2⟩ := back i f hi hf
    obtain ⟨e', k1', k2'⟩ := back j f' hj hf'
    exact R.tup i j e e' hi hj k1 k1' (k2.kind.trans hk) (k2'.kind.trans hk') ⟨by rw [k2'.lp, k2.lp]; exact ht.1, by rw [k2'.rh, k2.rh]; exact ht.2.1, by rw [k2'.rp, k2.rp]; exact ht.2.2⟩
  · intro i j f f' hi hj hf hf' hk hk' ht
    obtain ⟨e, k1, k2⟩ := back i f hi hf
    obtain ⟨e', k1', k2'⟩ := back j f' hj hf'
    exact R.slots i j e e' hi hj k1 k1' (k2.kind.trans hk) (k2'.kind.trans hk') (by rw [k2.slot, k2'.slot]; exact ht)
  · intro s s4
    rw [h2, R.bits s s4]
    constructor
    · rintro ⟨i, e, k1, k2, k3, k4⟩
      obtain ⟨f, q1, q2⟩ := fwd i e k1 k2
      exact ⟨i, f, k1, q1, q2.kind ▸ k3, q2.slot ▸ k4⟩
    · rintro ⟨i, f, k1, k2, k3, k4⟩
      obtain ⟨e, q1, q2⟩ := back i f k1 k2
      exact ⟨i, e, k1, q1, q2.kind.trans k3, q2.slot.trans k4⟩
  · intro i f hi hf hp
    obtain ⟨e, k1, k2⟩ := back i f hi hf
    obtain ⟨p1, p2, p3⟩ := h5 i e f hi k1 hf
    have p1 : f.parent = e.parent := by
      rcases p1 with p1 | p1
      · exact p1
      · exact absurd p1.2 hp
    obtain ⟨l, g, q1, q2, q3, q4, q5⟩ := R.par i e hi k1 (by rw [← p1]; exact hp)
    obtain ⟨g', r1, r2⟩ := fwd l g q1 q2
    exact ⟨l, g', q1, r1, r2.kind ▸ q3, by rw [← r2.sd, q4, p1], by rw [← r2.lp, q5, k2.lp]⟩
  · rw [h3, R.lis]
    refine cnt6_congr fun j hj => ?_
    have := hs j hj
    cases h : t.es j with
    | none => rw [h] at this; rw [this.none.1 rfl]
    | some e =>
      rw [h] at this
      obtain ⟨f, q1, q2⟩ := this.some2
      rw [q1]; simp only [isK, q2.kind]
  · rw [h4]; exact R.next
  · rw [h3]; exact R.lis2
  · rw [h2, R.con]
    refine cnt6_congr fun j hj => ?_
    have := hs j hj
    cases h : t.es j with
    | none => rw [h] at this; rw [this.none.1 rfl]
    | some e =>
      rw [h] at this
      obtain ⟨f, q1, q2⟩ := this.some2
      rw [q1]; simp only [isK, q2.kind]
theorem Tb.F.mod {t u : Tb} {fl : List Nat} (F : t.F fl) (h1 : u.free = t.free) (h2 : ∀ i, i ∈ fl → t.nx i = u.nx i) (h3 : ∀ i, i < 6 → (u.es i = none ↔ t.es i = none)) : u.F fl :=
  ⟨by rw [h1]; exact Chn.congr h2 F.c, F.n, fun i => by
    rw [F.m i]
    constructor
    · rintro ⟨a, b⟩; exact ⟨a, (h3 i a).2 b⟩
    · rintro ⟨a, b⟩; exact ⟨a, (h3 i a).1 b⟩⟩
theorem Tb.B.mod {t u : Tb} {bl : Nat → List Nat} (B : t.B bl) (h1 : u.bucket = t.bucket) (h2 : ∀ i, u.nx i = t.nx i) (h3 : ∀ j, j < 6 → EsSim (t.es j) (u.es j)) : u.B bl :=
  ⟨fun h hh => by rw [h1]; exact Chn.congr (fun i _ => (h2 i).symm) (B.c h hh), B.n, fun h hh i => by
    rw [B.m h hh i]
    constructor
    · rintro ⟨a, e, b, c, d⟩
      have := h3 i a
      rw [b] at this
      obtain ⟨f, q1, q2⟩ := this.some2
      exact ⟨a, f, q1, q2.kind ▸ c, q2.hsh ▸ d⟩
    · rintro ⟨a, e, b, c, d⟩
      have := h3 i a
      rw [b] at this
      obtain ⟨f, q1, q2⟩ := this.some1
      exact ⟨a, f, q1, q2.kind.trans c, q2.hsh.trans d⟩⟩
/-- an entry comes -/
theorem Tb.R.ins {t u : Tb} (R : t.R) {i : Nat} {e : En} (hi : i < 6) (h0 : t.es i = none) (hes : ∀ j, u.es j = if j = i then some e else t.es j) (hsd : e.sd = t.nextSd) (hn : u.nextSd = t.nextSd + 1) (hk : LisE e ∨ ConE e)
    (hport : e.kind = 1 → t.port e.lPort.toNat = -1 ∧ u.port = upA t.port e.lPort.toNat (i : Int)) (hport2 : e.kind = 2 → u.port = t.port)
    (htup : ∀ (j : Nat) (f : En), j < 6 → t.es j = some f → f.kind = 2 → e.kind = 2 → ¬ f.tup e.lPort e.rHost e.rPort)
    (hslot : e.kind = 2 → t.blocks.toNat.testBit e.slot.toNat = false ∧ u.blocks.toNat = t.blocks.toNat ||| 2 ^ e.slot.toNat) (hslot2 : e.kind = 1 → u.blocks = t.blocks)
    (hpar : e.parent ≠ 0 → ∃ (l : Nat) (f : En), l < 6 ∧ t.es l = some f ∧ f.kind = 1 ∧ f.sd = e.parent ∧ f.lPort = e.lPort) (hlis : u.listeners = t.listeners + b2 (decide (e.kind = 1))) (hl2 : e.kind = 1 → t.listeners < 2) : u.R := by
  have cs : ∀ (j : Nat) (f : En), u.es j = some f → (j = i ∧ f = e) ∨ (j ≠ i ∧ t.es j = some f) := fun j f hf => by
    rw [hes] at hf
    split at hf
    · rename_i hj; simp only [Option.some.injEq] at hf; exact .inl ⟨hj, hf.symm⟩
    · rename_i hj; exact .inr ⟨hj, hf⟩
  have old : ∀ (j : Nat) (f : En), t.es j = some f → u.es j = some f := fun j f hf => by
    rw [hes, if_neg]; exact hf
    intro h; subst h; rw [h0] at hf; cases hf
  have new : u.es i = some e := by rw [hes, if_pos rfl]
  have free : e.kind = 2 → ∀ (j : Nat) (f : En), j < 6 → t.es j = some f → f.kind = 2 → f.slot ≠ e.slot := fun hk2 j f hj hf hfk hs => by
    have h1 := (hslot hk2).1
    have hc : ConE e := hk.resolve_left (fun h => by have := h.kind; omega)
    have h2 := (R.bits e.slot.toNat (by have := hc.slot; omega)).2 ⟨j, f, hj, hf, hfk, by have := hc.slot; omega⟩
    rw [h1] at h2; cases h2
  refine ⟨?_, ?_, ?_, ?_, ?_, ?_, ?_, ?_, ?_, ?_, ?_, ?_, ?_⟩
  · intro j f hj hf
    rcases cs j f hf with ⟨_, rfl⟩ | ⟨_, h⟩
    · have := R.next; omega
    · have := R.sd j f hj h; omega
  · intro a b f g ha hb hf hg hs
    rcases cs a f hf with ⟨p1, p2⟩ | ⟨p1, p2⟩ <;> rcases cs b g hg with ⟨r1, r2⟩ | ⟨r1, r2⟩
    · rw [p1, r1]
    · subst p2; have := R.sd b g hb r2; omega
    · subst r2; have := R.sd a f ha p2; omega
    · exact R.sdD a b f g ha hb p2 r2 hs
  · intro j f hj hf
    rcases cs j f hf with ⟨_, rfl⟩ | ⟨_, h⟩
    · exact hk
    · exact R.kind j f hj h
  · intro j f hj hf hfk
    rcases cs j f hf with ⟨p1, rfl⟩ | ⟨p1, h⟩
    · rw [(hport hfk).2, upA_at, p1]
    · have h1 := R.portA j f hj h hfk
      rcases hk with hk | hk
      · obtain ⟨q1, q2⟩ := hport hk.kind
        rw [q2, upA_ne, h1]
        intro h2
        rw [h2, q1] at h1; omega
      · rw [hport2 hk.kind]; exact h1
  · intro p p1 p2
    by_cases hpe : e.kind = 1 ∧ p = e.lPort.toNat
    · obtain ⟨q1, q2⟩ := hport hpe.1
      have hl : LisE e := hk.resolve_right (fun h => by have := h.kind; omega)
      refine .inr ⟨i, e, hi, ?_, new, hpe.1, ?_⟩
      · rw [q2, hpe.2, upA_at]
      · have := hl.lp; omega
    · have e1 : u.port p = t.port p := by
        rcases hk with hk | hk
        · obtain ⟨q1, q2⟩ := hport hk.kind
          rw [q2, upA_ne]; intro h; exact hpe ⟨hk.kind, h⟩
        · rw [hport2 hk.kind]
      rw [e1]
      rcases R.portB p p1 p2 with h | ⟨j, f, k1, k2, k3, k4, k5⟩
      · exact .inl h
      · exact .inr ⟨j, f, k1, k2, old j f k3, k4, k5⟩
  · intro a b f g ha hb hf hg hfk hgk ht
    rcases cs a f hf with ⟨p1, p2⟩ | ⟨p1, p2⟩ <;> rcases cs b g hg with ⟨r1, r2⟩ | ⟨r1, r2⟩
    · rw [p1, r1]
    · subst p2; exact absurd ht (htup b g hb r2 hgk hfk)
    · subst r2; exact absurd ⟨ht.1.symm, ht.2.1.symm, ht.2.2.symm⟩ (htup a f ha p2 hfk hgk)
    · exact R.tup a b f g ha hb p2 r2 hfk hgk ht
  · intro a b f g ha hb hf hg hfk hgk hs
    rcases cs a f hf with ⟨p1, p2⟩ | ⟨p1, p2⟩ <;> rcases cs b g hg with ⟨r1, r2⟩ | ⟨r1, r2⟩
    · rw [p1, r1]
    · subst p2; exact absurd hs.symm (free hfk b g hb r2 hgk)
    · subst r2; exact absurd hs (free hgk a f ha p2 hfk)
    · exact R.slots a b f g ha hb p2 r2 hfk hgk hs
  · intro s s4
    rcases hk with hk | hk
    · rw [hslot2 hk.kind, R.bits s s4]
      constructor
      · rintro ⟨j, f, k1, k2, k3, k4⟩; exact ⟨j, f, k1, old j f k2, k3, k4⟩
      · rintro ⟨j, f, k1, k2, k3, k4⟩
        rcases cs j f k2 with ⟨p1, rfl⟩ | ⟨p1, p2⟩
        · have := hk.kind; omega
        · exact ⟨j, f, k1, p2, k3, k4⟩
    · rw [(hslot hk.kind).2, or_testBit_two_pow, Bool.or_eq_true, R.bits s s4, decide_eq_true_eq]
      have hsl := hk.slot
      constructor
      · rintro (⟨j, f, k1, k2, k3, k4⟩ | h)
        · exact ⟨j, f, k1, old j f k2, k3, k4⟩
        · exact ⟨i, e, hi, new, hk.kind, by omega⟩
      · rintro ⟨j, f, k1, k2, k3, k4⟩
        rcases cs j f k2 with ⟨p1, rfl⟩ | ⟨p1, p2⟩
        · right; omega
        · exact .inl ⟨j, f, k1, p2, k3, k4⟩
  · intro j f hj hf hp
    have key : ∃ (l : Nat) (g : En), l < 6 ∧ t.es l = some g ∧ g.kind = 1 ∧ g.sd = f.parent ∧ g.lPort = f.lPort := by
      rcases cs j f hf with ⟨p1, rfl⟩ | ⟨p1, p2⟩
      · exact hpar hp
      · exact R.par j f hj p2 hp
    obtain ⟨l, g, q1, q2, q3⟩ := key
    exact ⟨l, g, q1, old l g q2, q3⟩
  · rw [hlis, R.lis]
    have := cnt6_one (P := fun j => isK 1 (t.es j)) (Q := fun j => isK 1 (u.es j)) i hi (fun j hj hji => by rw [hes, if_neg hji])
    rw [new, h0] at this
    have e1 : b2 (isK 1 (none : Option En)) = 0 := rfl
    have e2 : b2 (isK 1 (some e)) = b2 (decide (e.kind = 1)) := rfl
    rw [e1, e2] at this; omega
  · have := R.next; omega
  · rw [hlis]
    rcases hk with hk | hk
    · have := hl2 hk.kind; have := b2_b (decide (e.kind = 1)); omega
    · have e1 : b2 (decide (e.kind = 1)) = 0 := by unfold b2; rw [if_neg]; simp [hk.kind]
      have := R.lis2; omega
  · have := cnt6_one (P := fun j => isK 2 (t.es j)) (Q := fun j => isK 2 (u.es j)) i hi (fun j hj hji => by rw [hes, if_neg hji])
    rw [new, h0] at this
    have e1 : b2 (isK 2 (none : Option En)) = 0 := rfl
    have e2 : b2 (isK 2 (some e)) = b2 (decide (e.kind = 2)) := rfl
    rw [e1, e2] at this
    rcases hk with hk | hk
    · rw [hslot2 hk.kind, R.con]
      have e3 : b2 (decide (e.kind = 2)) = 0 := by unfold b2; rw [if_neg]; simp [hk.kind]
      omega
    · obtain ⟨s1, s2⟩ := hslot hk.kind
      have hsl := hk.slot
      have h4 := cnt4_one (P := fun s => t.blocks.toNat.testBit s) (Q := fun s => u.blocks.toNat.testBit s) e.slot.toNat (by omega) (fun j hj hji => by rw [s2, or_testBit_two_pow]; simp; intro h; exact absurd h.symm hji)
      have e3 : b2 (decide (e.kind = 2)) = 1 := by unfold b2; rw [if_pos]; simp [hk.kind]
      rw [s1] at h4
      have e4 : u.blocks.toNat.testBit e.slot.toNat = true := by rw [s2, or_testBit_two_pow]; simp
      rw [e4] at h4
      have e5 : b2 true = 1 := rfl
      have e6 : b2 false = 0 := rfl
      have := R.con
      omega
/-- an entry goes -/
theorem Tb.R.del {t u : Tb} (R : t.R) {i : Nat} {e : En} (hi : i < 6) (h0 : t.es i = some e) (hes : ∀ j, u.es j = if j = i then none else t.es j) (hn : u.nextSd = t.nextSd)
    (hport : e.kind = 1 → u.port = upA t.port e.lPort.toNat (-1)) (hport2 : e.kind = 2 → u.port = t.port)
    (hslot : e.kind = 2 → ∀ s, s < 4 → u.blocks.toNat.testBit s = (t.blocks.toNat.testBit s && !decide (e.slot.toNat = s))) (hslot2 : e.kind = 1 → u.blocks = t.blocks)
    (hpar : e.kind = 1 → ∀ (j : Nat) (f : En), j < 6 → t.es j = some f → f.parent ≠ e.sd) (hlis : u.listeners = t.listeners - b2 (decide (e.kind = 1))) : u.R := by
  have cs : ∀ (j : Nat) (f : En), u.es j = some f → j ≠ i ∧ t.es j = some f := fun j f hf => by
    rw [hes] at hf
    split at hf
    · cases hf
    · rename_i hj; exact ⟨hj, hf⟩
  have old : ∀ (j : Nat) (f : En), j ≠ i → t.es j = some f → u.es j = some f := fun j f hj hf => by
    rw [hes, if_neg hj]; exact hf
  refine ⟨?_, ?_, ?_, ?_, ?_, ?_, ?_, ?_, ?_, ?_, ?_, ?_, ?_⟩
  · intro j f hj hf
    rw [hn]; exact R.sd j f hj (cs j f hf).2
  · intro a b f g ha hb hf hg hs
    exact R.sdD a b f g ha hb (cs a f hf).2 (cs b g hg).2 hs
  · intro j f hj hf
    exact R.kind j f hj (cs j f hf).2
  · intro j f hj hf hfk
    obtain ⟨c1, c2⟩ := cs j f hf
    have h1 := R.portA j f hj c2 hfk
    rcases R.kind i e hi h0 with hk | hk
    · rw [hport hk.kind, upA_ne, h1]
      intro h2
      have h3 := R.portA i e hi h0 hk.kind
      rw [h2, h3] at h1; omega
    · rw [hport2 hk.kind]; exact h1
  · intro p p1 p2
    rcases R.kind i e hi h0 with hk | hk
    · rw [hport hk.kind]
      by_cases hp : p = e.lPort.toNat
      · subst hp; exact .inl (upA_at ..)
      · rw [upA_ne _ _ hp]
        rcases R.portB p p1 p2 with h | ⟨j, f, k1, k2, k3, k4, k5⟩
        · exact .inl h
        · refine .inr ⟨j, f, k1, k2, old j f ?_ k3, k4, k5⟩
          intro h; subst h; rw [h0] at k3; cases k3; omega
    · rw [hport2 hk.kind]
      rcases R.portB p p1 p2 with h | ⟨j, f, k1, k2, k3, k4, k5⟩
      · exact .inl h
      · refine .inr ⟨j, f, k1, k2, old j f ?_ k3, k4, k5⟩
        intro h; subst h; rw [h0] at k3; cases k3; have := hk.kind; omega
  · intro a b f g ha hb hf hg hfk hgk ht
    exact R.tup a b f g ha hb (cs a f hf).2 (cs b g hg).2 hfk hgk ht
  · intro a b f g ha hb hf hg hfk hgk hs
    exact R.slots a b f g ha hb (cs a f hf).2 (cs b g hg).2 hfk hgk hs
  · intro s s4
    rcases R.kind i e hi h0 with hk | hk
    · rw [hslot2 hk.kind, R.bits s s4]
      constructor
      · rintro ⟨j, f, k1, k2, k3, k4⟩
        refine ⟨j, f, k1, old j f ?_ k2, k3, k4⟩
        intro h; subst h; rw [h0] at k2; cases k2; have := hk.kind; omega
      · rintro ⟨j, f, k1, k2, k3, k4⟩; exact ⟨j, f, k1, (cs j f k2).2, k3, k4⟩
    · rw [hslot hk.kind s s4, Bool.and_eq_true, R.bits s s4, Bool.not_eq_true', decide_eq_false_iff_not]
      have hsl := hk.slot
      constructor
      · rintro ⟨⟨j, f, k1, k2, k3, k4⟩, h⟩
        refine ⟨j, f, k1, old j f ?_ k2, k3, k4⟩
        intro hh; subst hh; rw [h0] at k2; cases k2; omega
      · rintro ⟨j, f, k1, k2, k3, k4⟩
        obtain ⟨c1, c2⟩ := cs j f k2
        refine ⟨⟨j, f, k1, c2, k3, k4⟩, fun h => c1 ?_⟩
        exact R.slots j i f e k1 hi c2 h0 k3 hk.kind (by omega)
  · intro j f hj hf hp
    obtain ⟨c1, c2⟩ := cs j f hf
    obtain ⟨l, g, q1, q2, q3, q4, q5⟩ := R.par j f hj c2 hp
    refine ⟨l, g, q1, old l g ?_ q2, q3, q4, q5⟩
    intro h; subst h; rw [h0] at q2; cases q2
    exact hpar q3 j f hj c2 q4.symm
  · rw [hlis, R.lis]
    have := cnt6_one (P := fun j => isK 1 (t.es j)) (Q := fun j => isK 1 (u.es j)) i hi (fun j hj hji => by rw [hes, if_neg hji])
    have new : u.es i = none := by rw [hes, if_pos rfl]
    rw [new, h0] at this
    have e1 : b2 (isK 1 (none : Option En)) = 0 := rfl
    have e2 : b2 (isK 1 (some e)) = b2 (decide (e.kind = 1)) := rfl
    rw [e1, e2] at this; omega
  · rw [hn]; exact R.next
  · rw [hlis]
    have := b2_b (decide (e.kind = 1)); have := R.lis2; omega
  · have := cnt6_one (P := fun j => isK 2 (t.es j)) (Q := fun j => isK 2 (u.es j)) i hi (fun j hj hji => by rw [hes, if_neg hji])
    have new : u.es i = none := by rw [hes, if_pos rfl]
    rw [new, h0] at this
    have e1 : b2 (isK 2 (none : Option En)) = 0 := rfl
    have e2 : b2 (isK 2 (some e)) = b2 (decide (e.kind = 2)) := rfl
    rw [e1, e2] at this
    rcases R.kind i e hi h0 with hk | hk
    · rw [hslot2 hk.kind, R.con]
      have e3 : b2 (decide (e.kind = 2)) = 0 := by unfold b2; rw [if_neg]; simp [hk.kind]
      omega
    · have s2 := hslot hk.kind
      have hsl := hk.slot
      have h4 := cnt4_one (P := fun s => t.blocks.toNat.testBit s) (Q := fun s => u.blocks.toNat.testBit s) e.slot.toNat (by omega) (fun j hj hji => by rw [s2 j hj]; simp; intro h1 h2; exact absurd h2.symm hji)
      have e3 : b2 (decide (e.kind = 2)) = 1 := by unfold b2; rw [if_pos]; simp [hk.kind]
      have e4 : u.blocks.toNat.testBit e.slot.toNat = false := by rw [s2 _ (by omega)]; simp
      have e7 : t.blocks.toNat.testBit e.slot.toNat = true := (R.bits _ (by omega)).2 ⟨i, e, hi, h0, hk.kind, by omega⟩
      rw [e4, e7] at h4
      have e5 : b2 true = 1 := rfl
      have e6 : b2 false = 0 := rfl
      have := R.con
      omega
end Go.Proofs.Qxb6500351aGreat
