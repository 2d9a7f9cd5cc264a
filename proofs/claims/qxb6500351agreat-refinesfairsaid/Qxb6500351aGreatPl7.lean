/- THE PLAIN LAW of the table, part 7: children are accepted; rows go. No Go in sight. -/
import Derived.Test.Qxb6500351aGreatPl6
set_option linter.unusedVariables false
set_option linter.unusedSimpArgs false
namespace Go.Proofs.Qxb6500351aGreat
open Go.Eng
def En.owned (e : En) : En := { e with parent := 0, ready := false }
theorem Tb.Good.kindC {t : Tb} {q : Int → List Int} (g : t.Good q) {i : Nat} {e : En} (hi : i < 6) (h : t.es i = some e) (k : e.kind ≠ 1) : ConE e := (g.r.kind i e hi h).resolve_left fun h => k h.kind
theorem Tb.Good.kindL {t : Tb} {q : Int → List Int} (g : t.Good q) {i : Nat} {e : En} (hi : i < 6) (h : t.es i = some e) (k : e.kind = 1) : LisE e := (g.r.kind i e hi h).resolve_right fun h => by have := h.kind; omega
/-- the cases of Accept -/
theorem Tb.Good.accept {t : Tb} {q : Int → List Int} (g : t.Good q) (lsd : Int) :
    (t.accept lsd = (0, 21, t) ∧ ∀ f, t.at lsd = some f → f.kind ≠ 1) ∨ (∃ f, t.accept lsd = (0, 14, t) ∧ t.at lsd = some f ∧ f.kind = 1 ∧ q lsd = []) ∨
    ∃ u f sd e rest, t.accept lsd = (sd, 0, u) ∧ t.at lsd = some f ∧ f.kind = 1 ∧ q lsd = sd :: rest ∧ t.at sd = some e ∧ e.kind = 2 ∧ e.parent = lsd ∧ e.ready = true ∧ u.Good (updQ q lsd rest) ∧ u.nextSd = t.nextSd ∧ u.eph = t.eph ∧ ∀ x, u.at x = if x = sd then some e.owned else t.at x := by
  unfold Tb.accept
  by_cases h1 : t.find lsd = -1 ∨ ¬ (t.rows (t.find lsd).toNat).e.kind = 1
  · rw [if_pos h1]
    refine .inl ⟨rfl, fun f hf hk => ?_⟩
    obtain ⟨l, l1, l2, l3, l4⟩ := Tb.at_row hf
    rcases h1 with h1 | h1
    · omega
    · rw [l2, Int.toNat_natCast, (Tb.es_some.1 l3).2] at h1; exact h1 hk
  rw [if_neg h1]
  obtain ⟨l, f, l1, l2, l3, l4⟩ := Tb.find_yes (fun h => h1 (.inl h))
  have hlt : (t.find lsd).toNat = l := by rw [l2]; simp
  have hfe := (Tb.es_some.1 l3).2
  rw [hlt]
  have hfk : f.kind = 1 := by
    have := fun h => h1 (.inr h)
    rw [hlt, hfe] at this; exact Decidable.not_not.1 this
  have hat : t.at lsd = some f := by rw [← l4]; exact (g.r.at_of l1 l3).1
  have Ql := g.q.rw l f l1 l3 hfk
  rw [l4] at Ql
  right
  match hq : q lsd with
  | [] =>
    have hn : (t.rows l).n = 0 := by have := Ql.n; rw [hq] at this; exact this
    rw [if_pos hn]
    exact .inl ⟨f, rfl, hat, hfk, rfl⟩
  | sd :: rest =>
    rw [hq] at Ql
    have hn : ¬ (t.rows l).n = 0 := by have := Ql.n; simp only [List.length_cons] at this; omega
    rw [if_neg hn]
    obtain ⟨d1, d2⟩ := Ql.deq
    obtain ⟨i, e, i1, i2, i3, i4, i5, i6⟩ := (g.q.m lsd sd).1 (by rw [hq]; simp)
    have hil : i ≠ l := fun h => by subst h; rw [l3] at i2; cases i2; omega
    have hds : (t.dequeue (t.find lsd)).1 = sd := by unfold Tb.dequeue; dsimp only; rw [hlt]; exact d1
    rw [hds]
    generalize ht1 : (t.dequeue (t.find lsd)).2.lessKid (t.find lsd) = t1
    have hrow1 : ∀ j, t1.rows j = if j = l then { (t.rows l) with head := wrapF ((t.rows l).head + 1), n := (t.rows l).n - 1, kids := (t.rows l).kids - 1 } else t.rows j := fun j => by
      rw [← ht1]; unfold Tb.lessKid Tb.dequeue; dsimp only
      rw [hlt, upA_at, upA_upA]
      by_cases hj : j = l
      · subst hj; rw [if_pos rfl, upA_at]
      · rw [if_neg hj, upA_ne _ _ hj]
    have same : t.Same t1 := by
      refine ⟨fun j => ?_, fun j => ?_, by rw [← ht1]; rfl, by rw [← ht1]; rfl, by rw [← ht1]; rfl, by rw [← ht1]; rfl, by rw [← ht1]; rfl, by rw [← ht1]; rfl⟩
      · unfold Tb.es; rw [hrow1]; split
        · rename_i h; subst h; rfl
        · rfl
      · unfold Tb.nx; rw [hrow1]; split
        · rename_i h; subst h; rfl
        · rfl
    have R1 := g.r.same same
    have hf1 : t1.find sd = (i : Int) := by rw [← i3]; exact (R1.at_of i1 (by rw [same.es]; exact i2)).2
    rw [hf1, if_neg (by omega)]
    generalize hu : t1.own (i : Int) = u
    have hrow : ∀ j, u.rows j = if j = l then { (t.rows l) with head := wrapF ((t.rows l).head + 1), n := (t.rows l).n - 1, kids := (t.rows l).kids - 1 } else if j = i then { (t.rows i) with e := e.owned } else t.rows j := fun j => by
      rw [← hu]; unfold Tb.own; dsimp only
      rw [Int.toNat_natCast, hrow1 i, if_neg hil]
      by_cases hj : j = l
      · subst hj; rw [if_pos rfl, upA_ne _ _ hil.symm, hrow1, if_pos rfl]
      · rw [if_neg hj]
        by_cases hj2 : j = i
        · subst hj2; rw [if_pos rfl, upA_at, (Tb.es_some.1 i2).2]; rfl
        · rw [if_neg hj2, upA_ne _ _ hj2, hrow1, if_neg hj]
    have hes : ∀ j, u.es j = if j = i then some e.owned else t.es j := fun j => by
      unfold Tb.es
      rw [hrow]
      by_cases hj : j = l
      · subst hj; rw [if_pos rfl, if_neg hil.symm]
      · rw [if_neg hj]
        by_cases hj2 : j = i
        · subst hj2; rw [if_pos rfl, if_pos rfl, if_pos (Tb.es_some.1 i2).1]
        · rw [if_neg hj2, if_neg hj2]
    have hnx : ∀ j, u.nx j = t.nx j := fun j => by
      unfold Tb.nx
      rw [hrow]
      by_cases hj : j = l
      · subst hj; rw [if_pos rfl]
      · rw [if_neg hj]
        by_cases hj2 : j = i
        · subst hj2; rw [if_pos rfl]
        · rw [if_neg hj2]
    have c : u.port = t.port ∧ u.blocks = t.blocks ∧ u.listeners = t.listeners ∧ u.nextSd = t.nextSd ∧ u.free = t.free ∧ u.bucket = t.bucket ∧ u.eph = t.eph := by rw [← hu, ← ht1]; exact ⟨rfl, rfl, rfl, rfl, rfl, rfl, rfl⟩
    have hke : ConE e := g.kindC i1 i2 (by omega)
    have hsim : ∀ j, j < 6 → EsSim (t.es j) (u.es j) := fun j hj => by
      rw [hes]
      by_cases hj2 : j = i
      · subst hj2; rw [if_pos rfl, i2]; exact ⟨rfl, rfl, rfl, rfl, rfl, rfl⟩
      · rw [if_neg hj2]; exact EsSim.refl _
    have R : u.R := by
      refine g.r.mod hsim c.1 c.2.1 c.2.2.1 c.2.2.2.1 (fun j a b hj ha hb => ?_)
      rw [hes] at hb
      by_cases hj2 : j = i
      · subst hj2; rw [if_pos rfl] at hb; cases hb; rw [i2] at ha; cases ha
        exact ⟨.inr ⟨i4, rfl⟩, fun h => absurd (show false = true from h) (by decide), fun h => by omega⟩
      · rw [if_neg hj2, ha] at hb; cases hb
        refine ⟨.inl rfl, fun h => ?_, fun h => (g.kindL hj ha h).ready⟩
        rcases g.r.kind j a hj ha with k | k
        · rw [k.ready] at h; cases h
        · exact k.ready h
    obtain ⟨fl, F⟩ := g.f
    obtain ⟨bl, B⟩ := g.b
    have hnd := g.q.nd lsd
    rw [hq] at hnd
    have hkid : ∀ x, x ≠ 0 → cnt6 (fun j => isKid x (u.es j)) = cnt6 (fun j => isKid x (t.es j)) - b2 (decide (x = lsd)) := fun x hx => by
      have := cnt6_one (P := fun j => isKid x (t.es j)) (Q := fun j => isKid x (u.es j)) i i1 (fun j _ hj => by rw [hes, if_neg hj])
      rw [i2, show u.es i = some e.owned by rw [hes, if_pos rfl]] at this
      have e1 : b2 (isKid x (some e.owned)) = 0 := by
        have : ¬ (0 : Int) = x := fun h => hx h.symm
        simp [isKid, b2, En.owned, this]
      have e2 : isKid x (some e) = decide (x = lsd) := by simp [isKid, i5, eq_comm]
      rw [e1, e2] at this; omega
    refine .inr ⟨u, f, sd, e, rest, rfl, hat, hfk, rfl, ?_, i4, i5, i6, ⟨R, ⟨fl, F.mod c.2.2.2.2.1 (fun j _ => (hnx j).symm) (fun j hj => ?_)⟩, ⟨bl, B.mod c.2.2.2.2.2.1 hnx hsim⟩, ⟨?_, ?_, ?_, ?_⟩⟩, c.2.2.2.1, c.2.2.2.2.2.2, ?_⟩
    · rw [← i3]; exact (g.r.at_of i1 i2).1
    · rw [hes]
      by_cases hj2 : j = i
      · subst hj2; rw [if_pos rfl, i2]; simp
      · rw [if_neg hj2]
    · intro m a hm ha hk
      rw [hes] at ha
      split at ha
      · cases ha; have : e.kind = 1 := hk; omega
      · rename_i hmi
        rw [hrow]
        by_cases hml : m = l
        · subst hml
          rw [l3] at ha; cases ha
          rw [if_pos rfl, l4, updQ_at]
          exact ⟨d2.n, d2.len, d2.head, d2.at0, d2.at1⟩
        · rw [if_neg hml, if_neg hmi, updQ_ne]
          · exact g.q.rw m a hm ha hk
          · intro h; exact hml (g.r.sdD m l a f hm l1 ha l3 (h.trans l4.symm))
    · intro x
      by_cases h : x = lsd
      · subst h; rw [updQ_at]; exact (List.nodup_cons.1 hnd).2
      · rw [updQ_ne _ _ h]; exact g.q.nd _
    · intro x y
      have old := g.q.m x y
      by_cases h : x = lsd
      · subst h; rw [updQ_at]; rw [hq, List.mem_cons] at old
        constructor
        · intro hy
          have hys : y ≠ sd := fun hh => by subst hh; exact (List.nodup_cons.1 hnd).1 hy
          obtain ⟨j, a, j1, j2, j3⟩ := old.1 (.inr hy)
          refine ⟨j, a, j1, ?_, j3⟩
          rw [hes, if_neg]; exact j2
          intro hh; subst hh; rw [i2] at j2; cases j2; exact hys (j3.1.symm.trans i3)
        · rintro ⟨j, a, j1, j2, j3⟩
          rw [hes] at j2
          split at j2
          · cases j2; exact absurd (show false = true from j3.2.2.2) (by decide)
          · rename_i hji
            refine (old.2 ⟨j, a, j1, j2, j3⟩).resolve_left fun hh => hji ?_
            exact g.r.sdD j i a e j1 i1 j2 i2 (by rw [j3.1, hh, i3])
      · rw [updQ_ne _ _ h, old]
        constructor
        · rintro ⟨j, a, j1, j2, j3⟩
          refine ⟨j, a, j1, ?_, j3⟩
          rw [hes, if_neg]; exact j2
          intro hh; subst hh; rw [i2] at j2; cases j2; exact h (j3.2.2.1.symm.trans i5)
        · rintro ⟨j, a, j1, j2, j3⟩
          rw [hes] at j2
          split at j2
          · cases j2; exact absurd (show false = true from j3.2.2.2) (by decide)
          · exact ⟨j, a, j1, j2, j3⟩
    · intro m a hm ha hk
      rw [hes] at ha
      split at ha
      · cases ha; have : e.kind = 1 := hk; omega
      · rename_i hmi
        have := g.q.kids m a hm ha hk
        have hsd := (g.r.sd m a hm ha).1
        rw [hkid _ (by omega), hrow]
        by_cases hml : m = l
        · subst hml; rw [if_pos rfl]
          rw [l3] at ha; cases ha
          have e1 : b2 (decide (f.sd = lsd)) = 1 := by simp [b2, l4]
          rw [e1]; dsimp only; omega
        · rw [if_neg hml, if_neg hmi]
          have : ¬ a.sd = lsd := fun h => hml (g.r.sdD m l a f hm l1 ha l3 (h.trans l4.symm))
          have e1 : b2 (decide (a.sd = lsd)) = 0 := by simp [b2, this]
          rw [e1]; omega
    · intro x
      have := g.r.at_set R i1 hes (fun a ha => by rw [i2] at ha; cases ha; rfl) x
      rw [this]
      show (if x = e.sd then _ else _) = _
      rw [i3]
end Go.Proofs.Qxb6500351aGreat
