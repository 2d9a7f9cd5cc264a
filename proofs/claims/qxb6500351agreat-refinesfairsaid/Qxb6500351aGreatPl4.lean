/- THE PLAIN LAW of the table, part 4: rows come. No Go in sight. -/
import Derived.Test.Qxb6500351aGreatPl3
set_option linter.unusedVariables false
set_option linter.unusedSimpArgs false
namespace Go.Proofs.Qxb6500351aGreat
open Go.Eng
theorem Tb.R.at_set {t u : Tb} (R : t.R) (U : u.R) {i : Nat} {e : En} (hi : i < 6) (hes : ∀ j, u.es j = if j = i then some e else t.es j) (h : ∀ f, t.es i = some f → f.sd = e.sd) (sd : Int) : u.at sd = if sd = e.sd then some e else t.at sd := by
  by_cases hs : sd = e.sd
  · rw [if_pos hs]
    exact U.at_iff.2 ⟨hs.symm, i, hi, by rw [hes, if_pos rfl]⟩
  · rw [if_neg hs]
    refine Option.ext fun f => ?_
    rw [U.at_iff, R.at_iff]
    constructor
    · rintro ⟨h1, j, h2, h3⟩
      rw [hes] at h3
      split at h3
      · simp only [Option.some.injEq] at h3; subst h3; exact absurd h1.symm hs
      · exact ⟨h1, j, h2, h3⟩
    · rintro ⟨h1, j, h2, h3⟩
      refine ⟨h1, j, h2, ?_⟩
      rw [hes, if_neg]; exact h3
      intro hj; subst hj; exact hs (h1.symm.trans (h f h3))
theorem Tb.R.at_del {t u : Tb} (R : t.R) (U : u.R) {i : Nat} {e : En} (hi : i < 6) (h0 : t.es i = some e) (hes : ∀ j, u.es j = if j = i then none else t.es j) (sd : Int) : u.at sd = if sd = e.sd then none else t.at sd := by
  refine Option.ext fun f => ?_
  rw [U.at_iff]
  by_cases hs : sd = e.sd
  · rw [if_pos hs]
    constructor
    · rintro ⟨h1, j, h2, h3⟩
      rw [hes] at h3
      split at h3
      · cases h3
      · rename_i hj; exact absurd (R.sdD j i f e h2 hi h3 h0 (h1.trans hs)) hj
    · intro h; cases h
  · rw [if_neg hs, R.at_iff]
    constructor
    · rintro ⟨h1, j, h2, h3⟩
      rw [hes] at h3
      split at h3
      · cases h3
      · exact ⟨h1, j, h2, h3⟩
    · rintro ⟨h1, j, h2, h3⟩
      refine ⟨h1, j, h2, ?_⟩
      rw [hes, if_neg]; exact h3
      intro hj; subst hj; rw [h0] at h3; cases h3; exact hs h1.symm
theorem Tb.R.at_map {t u : Tb} (R : t.R) (U : u.R) {m : En → En} (hm : ∀ e, (m e).sd = e.sd) (hes : ∀ j, j < 6 → u.es j = (t.es j).map m) (sd : Int) : u.at sd = (t.at sd).map m := by
  refine Option.ext fun f => ?_
  rw [U.at_iff, Option.map_eq_some_iff]
  constructor
  · rintro ⟨h1, j, h2, h3⟩
    rw [hes j h2, Option.map_eq_some_iff] at h3
    obtain ⟨e, h4, h5⟩ := h3
    exact ⟨e, R.at_iff.2 ⟨by rw [← hm e, h5, h1], j, h2, h4⟩, h5⟩
  · rintro ⟨e, h1, h2⟩
    obtain ⟨h3, j, h4, h5⟩ := R.at_iff.1 h1
    exact ⟨by rw [← h2, hm, h3], j, h4, by rw [hes j h4, h5, ← h2]; rfl⟩
/-- nothing changes but kids and rings -/
structure Tb.Same (t u : Tb) : Prop where
  es : ∀ j, u.es j = t.es j
  nx : ∀ j, u.nx j = t.nx j
  free : u.free = t.free
  bucket : u.bucket = t.bucket
  port : u.port = t.port
  blocks : u.blocks = t.blocks
  lis : u.listeners = t.listeners
  next : u.nextSd = t.nextSd
theorem Tb.R.same {t u : Tb} (R : t.R) (s : t.Same u) : u.R := by
  refine R.mod (fun j _ => EsSim.of (s.es j).symm) s.port s.blocks s.lis s.next (fun j e f hj he hf => ?_)
  rw [s.es, he] at hf
  cases hf
  refine ⟨.inl rfl, fun hr => ?_, fun hk => ?_⟩
  · rcases R.kind j e hj he with h | h
    · rw [h.ready] at hr; cases hr
    · exact h.ready hr
  · rcases R.kind j e hj he with h | h
    · exact h.ready
    · have := h.kind; omega
theorem Tb.F.same {t u : Tb} {fl : List Nat} (F : t.F fl) (s : t.Same u) : u.F fl := F.mod s.free (fun i _ => (s.nx i).symm) (fun i _ => by rw [s.es])
theorem Tb.B.same {t u : Tb} {bl : Nat → List Nat} (B : t.B bl) (s : t.Same u) : u.B bl := B.mod s.bucket s.nx (fun j _ => EsSim.of (s.es j).symm)
theorem Tb.R.at_same {t u : Tb} (R : t.R) (s : t.Same u) (sd : Int) : u.at sd = t.at sd := by
  refine Option.ext fun f => ?_
  rw [(R.same s).at_iff, R.at_iff]
  simp only [s.es]
theorem Tb.F.head {t : Tb} {fl : List Nat} (F : t.F fl) (h : ¬ t.free = -1) : ∃ fl', fl = t.free.toNat :: fl' ∧ t.free = (t.free.toNat : Int) ∧ Chn t.nx (t.nx t.free.toNat) fl' ∧ t.free.toNat < 6 ∧ t.es t.free.toNat = none := by
  obtain ⟨l', h1, h2, h3⟩ := F.c.cons h
  have := (F.m t.free.toNat).1 (by rw [h1]; exact List.mem_cons_self ..)
  exact ⟨l', h1, h2, h3, this.1, this.2⟩
theorem es_upA {t u : Tb} {i : Nat} {r : Rw} {e : En} (h : u.rows = upA t.rows i r) (h1 : r.used = true) (h2 : r.e = e) (j : Nat) : u.es j = if j = i then some e else t.es j := by
  unfold Tb.es
  rw [h]
  by_cases hj : j = i
  · subst hj; rw [if_pos rfl, upA_at, if_pos h1, h2]
  · rw [if_neg hj, upA_ne _ _ hj]
theorem es_upA0 {t u : Tb} {i : Nat} {r : Rw} (h : u.rows = upA t.rows i r) (h1 : r.used = false) (j : Nat) : u.es j = if j = i then none else t.es j := by
  unfold Tb.es
  rw [h]
  by_cases hj : j = i
  · subst hj; rw [if_pos rfl, upA_at, if_neg (by rw [h1]; decide)]
  · rw [if_neg hj, upA_ne _ _ hj]
theorem nx_upA {t u : Tb} {i : Nat} {r : Rw} (h : u.rows = upA t.rows i r) (j : Nat) : u.nx j = if j = i then r.nxt_ else t.nx j := by
  unfold Tb.nx
  rw [h]
  by_cases hj : j = i
  · subst hj; rw [if_pos rfl, upA_at]
  · rw [if_neg hj, upA_ne _ _ hj]
/-- there is a free row -/
theorem Tb.Good.has_free {t : Tb} {q : Int → List Int} (g : t.Good q) (h : t.listeners < 2 ∨ ¬ t.low = -1) : ¬ t.free = -1 := by
  intro hf
  obtain ⟨fl, F⟩ := g.f
  have h0 : fl = [] := by have := F.c; rw [hf] at this; exact this.nil
  have hall : ∀ j, j < 6 → ¬ t.es j = none := fun j hj hn => by
    have := (F.m j).2 ⟨hj, hn⟩
    rw [h0] at this; cases this
  have hb : ∀ j, j < 6 → b2 (isK 1 (t.es j)) + b2 (isK 2 (t.es j)) = 1 := fun j hj => by
    cases he : t.es j with
    | none => exact absurd he (hall j hj)
    | some e =>
      rcases g.r.kind j e hj he with k | k <;> simp [isK, k.kind, b2]
  have h1 := g.r.lis
  have h2 := g.r.con
  have h3 := cnt4_le (fun s => t.blocks.toNat.testBit s)
  have h4 := g.r.lis2
  have h5 : cnt6 (fun i => isK 1 (t.es i)) + cnt6 (fun i => isK 2 (t.es i)) = 6 := by
    have k0 := hb 0 (by omega); have k1 := hb 1 (by omega); have k2 := hb 2 (by omega); have k3 := hb 3 (by omega); have k4 := hb 4 (by omega); have k5 := hb 5 (by omega)
    unfold cnt6; dsimp only; omega
  rcases h with h | h
  · omega
  · obtain ⟨s, s1, s2, s3⟩ := Tb.low_yes h
    have := cnt4_lt (P := fun s => t.blocks.toNat.testBit s) s1 s3
    omega
theorem Tb.Good.par_lt {t : Tb} {q : Int → List Int} (g : t.Good q) {i : Nat} {e : En} (hi : i < 6) (h : t.es i = some e) : e.parent < t.nextSd := by
  by_cases h0 : e.parent = 0
  · have := g.r.next; omega
  · obtain ⟨l, f, k1, k2, k3, k4, k5⟩ := g.r.par i e hi h h0
    have := g.r.sd l f k1 k2; omega
theorem Tb.Good.q_new {t : Tb} {q : Int → List Int} (g : t.Good q) {lsd : Int} (h : t.nextSd ≤ lsd) : q lsd = [] := by
  refine List.eq_nil_iff_forall_not_mem.2 fun sd hm => ?_
  obtain ⟨i, e, k1, k2, k3, k4, k5, k6⟩ := (g.q.m lsd sd).1 hm
  have := g.par_lt k1 k2; omega
theorem Tb.F.tl {t : Tb} {fl : List Nat} {a : Nat} (F : t.F (a :: fl)) {u : Tb} {r : Rw} {e : En} (hr : u.rows = upA t.rows a r) (h1 : r.used = true) (h2 : r.e = e) (hf : u.free = t.nx a) : u.F fl := by
  have hc := F.c.2
  have hn := List.nodup_cons.1 F.n
  refine ⟨?_, hn.2, fun j => ?_⟩
  · rw [hf]
    exact Chn.congr (fun j hj => by rw [nx_upA hr, if_neg]; intro h; subst h; exact hn.1 hj) hc
  · rw [es_upA hr h1 h2]
    have := F.m j
    simp only [List.mem_cons] at this
    by_cases hj : j = a
    · subst hj; simp [hn.1]
    · simp only [hj, false_or] at this; rw [if_neg hj]; exact this
/-! ### a listener comes -/
def newRw (e : En) (nx : Int) : Rw := { used := true, e := e, nxt_ := nx, kids := 0, ring := fun _ => 0, head := 0, n := 0 }
def lisEn (sd p : Int) : En := { sd := sd, kind := 1, lPort := p, rHost := 0, rPort := 0, slot := -1, parent := 0, ready := false }
theorem lis_ne2 {sd p : Int} (h : (lisEn sd p).kind = 2) : False := by have h : (1 : Int) = 2 := h; omega
theorem Tb.listen_eq {t : Tb} (hf : ¬ t.free = -1) (p : Int) : t.listenT p = { t with free := t.nx t.free.toNat, nextSd := t.nextSd + 1, rows := upA t.rows t.free.toNat (newRw (lisEn t.nextSd p) (-1)), port := upA t.port p.toNat t.free, listeners := t.listeners + 1 } := by
  simp only [Tb.listenT, Tb.takeT, if_neg hf, upA_at, upA_upA, Tb.nx, lisEn, newRw, Rw.zero]
theorem Tb.Good.listenT {t : Tb} {q : Int → List Int} (g : t.Good q) {p : Int} (hp : 1 ≤ p ∧ p < 8) (h0 : t.port p.toNat = -1) (hl : t.listeners < 2) :
    (t.listenT p).Good q ∧ (t.listenT p).nextSd = t.nextSd + 1 ∧ ∀ sd, (t.listenT p).at sd = if sd = t.nextSd then some (lisEn t.nextSd p) else t.at sd := by
  have hf := g.has_free (.inl hl)
  obtain ⟨fl, F⟩ := g.f
  obtain ⟨bl, B⟩ := g.b
  obtain ⟨fl', f1, f2, f3, f4, f5⟩ := F.head hf
  have e0 := t.listen_eq hf p
  rw [e0]
  generalize hi : t.free.toNat = i at *
  have hu : ∀ u : Tb, u = { t with free := t.nx i, nextSd := t.nextSd + 1, rows := upA t.rows i (newRw (lisEn t.nextSd p) (-1)), port := upA t.port p.toNat t.free, listeners := t.listeners + 1 } → u.Good q ∧ u.nextSd = t.nextSd + 1 ∧ ∀ sd, u.at sd = if sd = t.nextSd then some (lisEn t.nextSd p) else t.at sd := by
    intro u hu
    have hr : u.rows = upA t.rows i (newRw (lisEn t.nextSd p) (-1)) := by rw [hu]
    have hes : ∀ j, u.es j = if j = i then some (lisEn t.nextSd p) else t.es j := es_upA hr rfl rfl
    have hkn : ∀ j, (u.rows j).ring = (if j = i then fun _ => 0 else (t.rows j).ring) := fun j => by
      rw [hr]; by_cases hj : j = i
      · subst hj; rw [if_pos rfl, upA_at]; rfl
      · rw [if_neg hj, upA_ne _ _ hj]
    have R : u.R := by
      refine g.r.ins f4 f5 hes rfl (by rw [hu]) (.inl ⟨rfl, hp, rfl, rfl, rfl⟩) (fun _ => ⟨h0, ?_⟩) (fun h => (lis_ne2 h).elim) (fun j f _ _ _ h => (lis_ne2 h).elim) (fun h => (lis_ne2 h).elim) (fun _ => by rw [hu]) (fun h => absurd rfl h) ?_ (fun _ => hl)
      · rw [hu, f2]; rfl
      · rw [hu]; rfl
    have hat := g.r.at_set R f4 hes (fun f hff => by rw [f5] at hff; cases hff)
    refine ⟨⟨R, ⟨fl', ?_⟩, ⟨bl, ?_⟩, ?_⟩, by rw [hu], hat⟩
    · subst f1
      exact F.tl hr rfl rfl (by rw [hu])
    · refine ⟨fun h hh => ?_, B.n, fun h hh j => ?_⟩
      · have : u.bucket = t.bucket := by rw [hu]
        rw [this]
        refine Chn.congr (fun j hj => ?_) (B.c h hh)
        rw [nx_upA hr, if_neg]
        intro hji; subst hji
        obtain ⟨_, e, k, _⟩ := (B.m h hh j).1 hj
        rw [f5] at k; cases k
      · rw [B.m h hh j]
        constructor
        · rintro ⟨a, e, b, c, d⟩
          refine ⟨a, e, ?_, c, d⟩
          rw [hes, if_neg]; exact b
          intro hji; subst hji; rw [f5] at b; cases b
        · rintro ⟨a, e, b, c, d⟩
          rw [hes] at b
          split at b
          · cases b; exact (lis_ne2 c).elim
          · exact ⟨a, e, b, c, d⟩
    · refine ⟨?_, g.q.nd, ?_, ?_⟩
      · intro l e hl he hk
        rw [hes] at he
        split at he
        · rename_i hli
          cases he
          have : q (lisEn t.nextSd p).sd = [] := g.q_new (Int.le_refl _)
          rw [this]
          subst hli
          rw [hr, upA_at]
          exact ⟨rfl, Nat.zero_le _, (by decide : (0 : Int) ≤ 0 ∧ (0 : Int) < 2), fun x h => by simp at h, fun x h => by simp at h⟩
        · rename_i hli
          rw [hr, upA_ne _ _ hli]
          exact g.q.rw l e hl he hk
      · intro lsd sd
        rw [g.q.m lsd sd]
        constructor
        · rintro ⟨j, e, a, b, c⟩
          refine ⟨j, e, a, ?_, c⟩
          rw [hes, if_neg]; exact b
          intro hji; subst hji; rw [f5] at b; cases b
        · rintro ⟨j, e, a, b, c⟩
          rw [hes] at b
          split at b
          · cases b; exact (lis_ne2 c.2.1).elim
          · exact ⟨j, e, a, b, c⟩
      · intro l e hl he hk
        have key : ∀ sd, 1 ≤ sd → cnt6 (fun j => isKid sd (u.es j)) = cnt6 (fun j => isKid sd (t.es j)) := fun sd hsd => by
          refine cnt6_congr fun j hj => ?_
          rw [hes]
          split
          · rename_i hji; subst hji; rw [f5]
            have : ¬ (lisEn t.nextSd p).parent = sd := by show ¬ (0 : Int) = sd; omega
            simp only [isKid, this, decide_false]
          · rfl
        have he' := he
        rw [hes] at he
        split at he
        · rename_i hli
          cases he
          subst hli
          rw [show (lisEn t.nextSd p).sd = t.nextSd from rfl, key _ g.r.next]
          have hz : cnt6 (fun j => isKid t.nextSd (t.es j)) = 0 := cnt6_zero fun j hj => by
            cases hh : t.es j with
            | none => rfl
            | some f =>
              have := g.par_lt hj hh
              have h2 : ¬ f.parent = t.nextSd := by omega
              simp only [isKid, h2, decide_false]
          rw [hz, hr, upA_at]
          exact ⟨rfl, (by decide : (0 : Int) ≤ 2)⟩
        · rename_i hli
          rw [hr, upA_ne _ _ hli, key _ (g.r.sd l e hl he).1]
          exact g.q.kids l e hl he hk
  exact hu _ rfl
/-- a call of Listen -/
theorem Tb.Good.listen {t : Tb} {q : Int → List Int} (g : t.Good q) (p : Int) :
    (t.listen p = (0, 22, t) ∧ (p < 1 ∨ 8 ≤ p)) ∨ (t.listen p = (0, 23, t) ∧ (1 ≤ p ∧ p < 8) ∧ ∃ sd e, t.at sd = some e ∧ e.kind = 1 ∧ e.lPort = p) ∨
    (t.listen p = (0, 11, t) ∧ (1 ≤ p ∧ p < 8) ∧ (∀ sd e, t.at sd = some e → e.kind = 1 → e.lPort ≠ p) ∧ t.listeners = 2) ∨
    ∃ u, t.listen p = (t.nextSd, 0, u) ∧ (1 ≤ p ∧ p < 8) ∧ (∀ sd e, t.at sd = some e → e.kind = 1 → e.lPort ≠ p) ∧ t.listeners < 2 ∧ u.Good q ∧ u.nextSd = t.nextSd + 1 ∧ ∀ sd, u.at sd = if sd = t.nextSd then some (lisEn t.nextSd p) else t.at sd := by
  by_cases hp : p < 1 ∨ 8 ≤ p
  · exact .inl ⟨by unfold Tb.listen; rw [if_pos hp], hp⟩
  · have hp' : 1 ≤ p ∧ p < 8 := by omega
    right
    rcases g.r.portB p.toNat (by omega) (by omega) with h | ⟨i, e, k1, k2, k3, k4, k5⟩
    · have hno : ∀ sd e, t.at sd = some e → e.kind = 1 → e.lPort ≠ p := fun sd e he hk hl => by
        obtain ⟨i, k1, _, k3, _⟩ := Tb.at_row he
        have := g.r.portA i e k1 k3 hk
        rw [hl, h] at this; omega
      right
      by_cases hl : 2 ≤ t.listeners
      · exact .inl ⟨by unfold Tb.listen; rw [if_neg hp, if_neg (not_not_intro h), if_pos hl], hp', hno, by have := g.r.lis2; omega⟩
      · obtain ⟨a, b, c⟩ := g.listenT hp' h (by omega)
        have hf := g.has_free (.inl (by omega))
        refine .inr ⟨_, ?_, hp', hno, by omega, a, b, c⟩
        unfold Tb.listen; rw [if_neg hp, if_neg (not_not_intro h), if_neg hl, if_neg hf, Tb.take_next]
    · refine .inl ⟨?_, hp', e.sd, e, (g.r.at_of k1 k3).1, k4, by omega⟩
      unfold Tb.listen; rw [if_neg hp, if_pos (by rw [k2]; omega)]
end Go.Proofs.Qxb6500351aGreat
