/- THE PLAIN LAW of the table, part 10: the first table; what the walks ask of a table. No Go in sight. -/
import Derived.Test.Qxb6500351aGreatPl9
set_option linter.unusedVariables false
set_option linter.unusedSimpArgs false
namespace Go.Proofs.Qxb6500351aGreat
open Go.Eng
theorem Tb.init_es (j : Nat) : Tb.init.es j = none := rfl
theorem Tb.init_at (sd : Int) : Tb.init.at sd = none := by
  rw [Tb.at_none]
  unfold Tb.find
  rcases firstI_spec (Tb.init.isSd sd) 6 0 with ⟨h, _⟩ | ⟨k, _, _, h, _⟩
  · exact h
  · simp only [Tb.isSd, Bool.and_eq_true] at h
    exact absurd (show false = true from h.1) (by decide)
theorem Tb.init_good : Tb.init.Good (fun _ => []) := by
  refine ⟨⟨?_, ?_, ?_, ?_, ?_, ?_, ?_, ?_, ?_, ?_, ?_, ?_, ?_⟩, ⟨[0, 1, 2, 3, 4, 5], ?_, ?_, ?_⟩, ⟨fun _ => [], ?_, ?_, ?_⟩, ⟨?_, ?_, ?_, ?_⟩⟩
  · intro i e _ h; cases h
  · intro i j e f _ _ h; cases h
  · intro i e _ h; cases h
  · intro i e _ h; cases h
  · intro p h1 h2
    left
    show (if p < 8 then (-1 : Int) else 0) = -1
    rw [if_pos h2]
  · intro i j e f _ _ h; cases h
  · intro i j e f _ _ h; cases h
  · intro s hs
    constructor
    · intro h
      have : Tb.init.blocks.toNat = 0 := rfl
      rw [this] at h; simp at h
    · rintro ⟨i, e, _, h, _⟩; cases h
  · intro i e _ h; cases h
  · rfl
  · exact (by decide : (1 : Int) ≤ 1)
  · exact (by decide : (0 : Int) ≤ 2)
  · rfl
  · exact ⟨rfl, rfl, rfl, rfl, rfl, rfl, rfl⟩
  · decide
  · intro i
    rw [Tb.init_es]
    simp only [List.mem_cons, List.not_mem_nil, or_false, and_true]
    omega
  · intro h hh
    show (if h < 4 then (-1 : Int) else 0) = -1
    rw [if_pos hh]
  · intro h hh; exact List.nodup_nil
  · intro h hh i
    refine ⟨fun h => absurd h (by simp), ?_⟩
    rintro ⟨_, e, k, _⟩; cases k
  · intro l e _ h; cases h
  · intro x; exact List.nodup_nil
  · intro x y
    refine ⟨fun h => absurd h (by simp), ?_⟩
    rintro ⟨i, e, _, k, _⟩; cases k
  · intro l e _ h; cases h
/-! ### kids are never negative -/
def Tb.K (t : Tb) : Prop := ∀ j, 0 ≤ (t.rows j).kids
theorem Tb.K.upA {t u : Tb} {i : Nat} {r : Rw} (h : t.K) (hr : u.rows = upA t.rows i r) (h0 : 0 ≤ r.kids) : u.K := fun j => by
  rw [hr]; unfold Go.Proofs.Qxb6500351aGreat.upA; split
  · exact h0
  · exact h j
theorem Tb.K.of {t u : Tb} (h : t.K) (hr : ∀ j, (u.rows j).kids = (t.rows j).kids) : u.K := fun j => by rw [hr]; exact h j
theorem Tb.init_K : Tb.init.K := fun j => by
  show (0 : Int) ≤ 0; omega
theorem Tb.K.take {t : Tb} (h : t.K) : t.takeT.K := by
  unfold Tb.takeT; split
  · exact h
  · exact Tb.K.upA h rfl (by show (0 : Int) ≤ 0; omega)
theorem Tb.K.listen {t : Tb} (h : t.K) (p : Int) : (t.listen p).2.2.K := by
  unfold Tb.listen
  repeat' split
  · exact h
  · exact h
  · exact h
  · exact h.take
  · exact Tb.K.upA h.take rfl (h.take _)
theorem Tb.K.conn {t : Tb} (h : t.K) (lp rh rp slot parent : Int) : (t.conn lp rh rp slot parent).2.K := by
  unfold Tb.conn
  split
  · exact h.take
  · have h1 : (t.connT lp rh rp slot parent).K := Tb.K.upA h.take rfl (h.take _)
    exact Tb.K.upA h1 rfl (h1 _)
theorem Tb.K.connect {t : Tb} (h : t.K) (rh rp : Int) : (t.connect rh rp).2.2.K := by
  unfold Tb.connect
  repeat' split
  · exact h
  · exact h
  · exact h
  · exact h.conn _ _ _ _ _
  · exact Tb.K.of (h.conn (t.connP rh rp) rh rp t.low 0) (fun _ => rfl)
theorem Tb.K.child {t : Tb} (h : t.K) (lp rh rp : Int) : (t.child lp rh rp).2.2.K := by
  unfold Tb.child
  repeat' split
  · exact h
  · exact h
  · exact h
  · exact h
  · exact h
  · exact h.conn _ _ _ _ _
  · have h1 := h.conn lp rh rp t.low (t.rows (t.lrow lp).toNat).e.sd
    refine Tb.K.upA h1 rfl ?_
    have := h1 (t.lrow lp).toNat
    dsimp only; omega
theorem Tb.K.ready {t : Tb} (h : t.K) (sd : Int) : (t.ready sd).2.K := by
  unfold Tb.ready
  repeat' split
  · exact h
  · exact h
  · exact h
  · have h1 : (t.setReady (t.find sd)).K := Tb.K.upA h rfl (h _)
    exact Tb.K.upA h1 rfl (h1 _)
theorem Tb.K.accept {t : Tb} {q : Int → List Int} (h : t.K) (g : t.Good q) (lsd : Int) : (t.accept lsd).2.2.K := by
  unfold Tb.accept
  by_cases h1 : t.find lsd = -1 ∨ ¬ (t.rows (t.find lsd).toNat).e.kind = 1
  · rw [if_pos h1]; exact h
  rw [if_neg h1]
  by_cases h2 : (t.rows (t.find lsd).toNat).n = 0
  · rw [if_pos h2]; exact h
  rw [if_neg h2]
  have k1 : 1 ≤ (t.rows (t.find lsd).toNat).kids := by
    obtain ⟨l, f, l1, l2, l3, l4⟩ := Tb.find_yes (fun h => h1 (.inl h))
    have hlt : (t.find lsd).toNat = l := by rw [l2]; simp
    have hfe := (Tb.es_some.1 l3).2
    rw [hlt] at h2 ⊢
    have hfk : f.kind = 1 := by
      have := fun h => h1 (.inr h)
      rw [hlt, hfe] at this; exact Decidable.not_not.1 this
    have Q := g.q.rw l f l1 l3 hfk
    rw [(g.q.kids l f l1 l3 hfk).1]
    match hq : q f.sd with
    | [] => have := Q.n; rw [hq] at this; exact absurd this h2
    | sd :: rest =>
      obtain ⟨i, e, i1, i2, i3, i4, i5, i6⟩ := (g.q.m f.sd sd).1 (by rw [hq]; simp)
      exact cnt6_pos i1 (by rw [i2]; simp [isKid, i5])
  have h3 : ((t.dequeue (t.find lsd)).2.lessKid (t.find lsd)).K := by
    have e1 : ∀ j, (((t.dequeue (t.find lsd)).2.lessKid (t.find lsd)).rows j).kids = if j = (t.find lsd).toNat then (t.rows (t.find lsd).toNat).kids - 1 else (t.rows j).kids := fun j => by
      unfold Tb.lessKid Tb.dequeue; dsimp only
      rw [upA_at, upA_upA]
      unfold Go.Proofs.Qxb6500351aGreat.upA; split <;> rfl
    intro j
    rw [e1]; split
    · omega
    · exact h j
  split
  · exact h3
  · exact Tb.K.upA h3 rfl (h3 _)
theorem Tb.K.unl {t : Tb} (h : t.K) (i : Int) : ∀ (f : Nat) (j : Int), (t.unl i f j).K
  | 0, _ => h
  | f + 1, j => by
    unfold Tb.unl; split
    · exact h
    · split
      · exact Tb.K.upA h rfl (h _)
      · exact Tb.K.unl h i f _
theorem Tb.K.unlink {t : Tb} (h : t.K) (i : Int) : (t.unlink i).K := by
  unfold Tb.unlink; split
  · exact Tb.K.of h (fun _ => rfl)
  · exact Tb.K.unl h i _ _
/-- what the walks ask of a table whose row goes -/
theorem Tb.Good.freeOk {t : Tb} {q : Int → List Int} (g : t.Good q) (h : t.K) {sd : Int} {e : En} (he : t.at sd = some e) : t.FreeOk sd := by
  obtain ⟨i, i1, i2, i3, i4⟩ := Tb.at_row he
  have hie : (t.rows i).e = e := (Tb.es_some.1 i3).2
  have e1 : (t.find sd).toNat = i := by rw [i2]; simp
  refine ⟨fun j => by have := h j; omega, ?_, ?_, ?_⟩
  · rw [g.r.lis]; have := (cnt6_b (fun i => isK 1 (t.es i))).1; omega
  · rw [e1, hie]; intro hk; exact (g.kindL i1 i3 hk).lp.2
  · rw [e1, hie]; intro _ hk; exact (g.kindC i1 i3 hk).slot.1
theorem Tb.Good.K_free {t : Tb} {q : Int → List Int} (g : t.Good q) (h : t.K) {sd : Int} {e : En} (he : t.at sd = some e) : (t.freeSd sd).2.K := by
  obtain ⟨i, i1, i2, i3, i4⟩ := Tb.at_row he
  have hie : (t.rows i).e = e := (Tb.es_some.1 i3).2
  unfold Tb.freeSd Tb.freeT
  rw [i2, if_neg (by omega), Int.toNat_natCast, hie]
  by_cases hk : e.kind = 1
  · rw [if_pos hk]
    have h1 : (t.freeL (i : Int) sd).K := Tb.K.of h (fun j => by
      unfold Tb.freeL Tb.kidsTo; dsimp only; split <;> rfl)
    exact Tb.K.upA h1 rfl (by show (0 : Int) ≤ 0; omega)
  · rw [if_neg hk]
    have h2 : (t.freeC (i : Int)).K := by
      unfold Tb.freeC
      have hu := h.unlink (i : Int)
      generalize hw : ({ t.unlink (i : Int) with blocks := clrBlk (t.unlink (i : Int)).blocks ((t.unlink (i : Int)).rows (i : Int).toNat).e.slot } : Tb) = w
      have hwk : w.K := by rw [← hw]; exact hu
      -- the kids of the parent's row, in the table as it was
      have hrows : ∀ j, (w.rows j).kids = (t.rows j).kids ∧ (w.rows j).e = (t.rows j).e := by
        have : ∀ f (j' : Int) j, ((t.unl (i : Int) f j').rows j).kids = (t.rows j).kids ∧ ((t.unl (i : Int) f j').rows j).e = (t.rows j).e := by
          intro f
          induction f with
          | zero => intro j' j; exact ⟨rfl, rfl⟩
          | succ f ih =>
            intro j' j
            unfold Tb.unl; split
            · exact ⟨rfl, rfl⟩
            · split
              · dsimp only; unfold Go.Proofs.Qxb6500351aGreat.upA; split
                · rename_i hh; subst hh; exact ⟨rfl, rfl⟩
                · exact ⟨rfl, rfl⟩
              · exact ih _ _
        intro j
        rw [← hw]
        unfold Tb.unlink
        dsimp only
        split
        · exact ⟨rfl, rfl⟩
        · exact this _ _ _
      have hport : w.port = t.port := by
        have : ∀ f (j' : Int), (t.unl (i : Int) f j').port = t.port := by
          intro f
          induction f with
          | zero => intro j'; rfl
          | succ f ih =>
            intro j'
            unfold Tb.unl; split
            · rfl
            · split
              · rfl
              · exact ih _
        rw [← hw]
        unfold Tb.unlink
        dsimp only
        split
        · rfl
        · exact this _ _
      unfold Tb.orphan
      rw [Int.toNat_natCast, (hrows i).2, hie]
      by_cases hp : e.parent = 0
      · rw [if_pos hp]; exact hwk
      rw [if_neg hp]
      obtain ⟨l, f, l1, l2, l3, l4, l5⟩ := g.r.par i e i1 i3 hp
      have hlr : w.lrow e.lPort = (l : Int) := by
        have e1 : w.lrow e.lPort = t.lrow e.lPort := by unfold Tb.lrow; rw [hport]
        rw [e1]
        rcases g.r.lrow e.lPort with ⟨_, k⟩ | ⟨m, f', m1, m2, m3, m4, m5⟩
        · exact absurd l5 (k l f l1 l2 l3)
        · have : m = l := by
            have a := g.r.portA m f' m1 m3 m4
            have b := g.r.portA l f l1 l2 l3
            rw [m5, ← l5, b] at a; omega
          rw [m2, this]
      have hk1 : 1 ≤ (t.rows l).kids := by
        rw [(g.q.kids l f l1 l2 l3).1]
        exact cnt6_pos i1 (by rw [i3]; simp [isKid, l4])
      rw [hlr, if_neg (by omega), Int.toNat_natCast]
      have hx : ∀ y : Tb, y.rows = Go.Proofs.Qxb6500351aGreat.upA w.rows l { (w.rows l) with kids := (w.rows l).kids - 1 } → y.K := fun y hy => by
        refine Tb.K.upA hwk hy ?_
        dsimp only; rw [(hrows l).1]; omega
      by_cases hr : e.ready = true
      · rw [if_pos hr]
        unfold Tb.leave
        have h0 := hx { w with rows := Go.Proofs.Qxb6500351aGreat.upA w.rows l { (w.rows l) with kids := (w.rows l).kids - 1 } } rfl
        refine Tb.K.upA h0 rfl ?_
        have : ∀ r : Rw, (r.leave e.sd).kids = r.kids := fun r => by
          unfold Rw.leave; repeat' split
          all_goals rfl
        rw [this]; exact h0 _
      · rw [if_neg hr]; exact hx _ rfl
    exact Tb.K.upA h2 rfl (by show (0 : Int) ≤ 0; omega)
end Go.Proofs.Qxb6500351aGreat
