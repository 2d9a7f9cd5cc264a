/- THE PLAIN LAW of the abstract network, part 3: the whole look. No Go in sight. -/
import Derived.Test.Qxb6500351aGreatPl39
set_option linter.unusedVariables false
set_option linter.unusedSimpArgs false
namespace Go.Proofs.Qxb6500351aGreat
open Go.Eng
/-- an end's descriptor is never a listener's -/
def KC (w : W) : Prop := ∀ i, i < w.n → ∀ e, (w.host i).t.at (w.N i).sd = some e → e.kind = 2
structure BornAt (w : W) (del : Nat → Int) (m h : Nat) : Prop where
  n : w.n = m + 1
  host : (w.N m).host = (h : Int)
  del : del h ≠ 0
  row : ∃ e c p ep cp, w.row m e c ∧ c.x.st = 2 ∧ c.x.why = 0 ∧ e.parent ≠ 0 ∧ e.ready = false ∧ p < m ∧ w.N m = kidN h e (p : Int) ∧ w.row p ep cp
  max : ∀ x e, (w.H h).t.at x = some e → x ≤ (w.N m).sd
structure Stage (w : W) (del : Nat → Int) (L : Nat → Ned) (m h : Nat) : Prop where
  c : ∀ j, j < m → NetC w L j
  done : ∀ j, j < m → (w.N j).host < (h : Int) → NetI w L j
  todo : ∀ j, j < m → (h : Int) ≤ (w.N j).host → NetP w L del j
  mm : ∀ i p, i < m → w.mut i p → p < m
  hm : m = w.n ∨ ∃ hb, h ≤ hb ∧ BornAt w del m hb
theorem sorted_last : ∀ {l : List Int} {x : Int}, l.Pairwise (· < ·) → x ∈ l → (∀ y, y ∈ l → y ≤ x) → ∃ l1, l = l1 ++ [x]
  | [], x, _, h, _ => absurd h (by simp)
  | [a], x, _, h, _ => by
    have : x = a := by simpa using h
    subst this; exact ⟨[], rfl⟩
  | a :: b :: l, x, hp, h, hm => by
    have hp' := List.pairwise_cons.1 hp
    have hx : x ∈ b :: l := by
      rcases List.mem_cons.1 h with k | k
      · exfalso
        have h1 := hp'.1 b (List.mem_cons_self ..)
        have h2 := hm b (by simp)
        omega
      · exact k
    obtain ⟨l1, e⟩ := sorted_last hp'.2 hx (fun y hy => hm y (List.mem_cons_of_mem _ hy))
    exact ⟨a :: l1, by rw [e]; rfl⟩
/-- behind the rows of host h, its missing ends are marked -/
theorem look_gone {w : W} (I : Inv w) (kc : KC w) {del : Nat → Int} {h : Nat} (h3 : h < 3) {m : Nat} (hmn : m ≤ w.n) {L : Nat → Ned} (hc : ∀ j, j < m → NetC w L j) (hd : ∀ j, j < m → (w.N j).host < (h : Int) → NetI w L j) (hr : ∀ j, j < m → (w.N j).host = (h : Int) → (∃ e c, w.row j e c) → NetI w L j) (hnr : ∀ j, j < m → (w.N j).host = (h : Int) → (∀ e c, ¬ w.row j e c) → NetP w L del j) (ht : ∀ j, j < m → (h : Int) < (w.N j).host → NetP w L del j) :
    ∃ L', goneTo h (w.H h).t.list (LL L m) m = LL L' m ∧ (∀ k, k < m → goneP h (w.H h).t.list (goneL h (w.H h).t.list L k k) = true → nUnl (LL (goneL h (w.H h).t.list L k) m) k = true) ∧ (∀ j, j < m → NetC w L' j) ∧ (∀ j, j < m → (w.N j).host < ((h + 1 : Nat) : Int) → NetI w L' j) ∧ (∀ j, j < m → ((h + 1 : Nat) : Int) ≤ (w.N j).host → NetP w L' del j) ∧ ∀ j, (L' j).why = (L j).why := by
  have HI := I.hi h h3
  obtain ⟨l1, l2, l3⟩ := HI.good.r.list
  have mem : ∀ j, j < m → (w.N j).host = (h : Int) → ((w.N j).sd ∈ (w.H h).t.list ↔ ∃ e c, w.row j e c) := fun j hj hh => by
    have hw : w.host j = w.H h := by unfold W.host; rw [hh]; simp
    rw [l3]
    constructor
    · rintro ⟨e, he⟩
      have := kc j (by omega) e (by rw [hw]; exact he)
      exact ⟨e, _, by rw [hw]; exact he, this, rfl⟩
    · rintro ⟨e, c, r⟩
      exact ⟨e, by rw [← hw]; exact r.at_⟩
  have gp : ∀ j, j < m → (goneP h (w.H h).t.list (L j) = true ↔ (w.N j).host = (h : Int) ∧ (L j).gone = false ∧ ∀ e c, ¬ w.row j e c) := fun j hj => by
    have C := hc j hj
    unfold goneP
    rw [Bool.and_eq_true, Bool.and_eq_true, decide_eq_true_eq, C.id.host, C.id.sd]
    simp only [Bool.not_eq_true', List.contains_iff_mem, Bool.eq_false_iff, ne_eq, decide_eq_true_eq]
    constructor
    · rintro ⟨⟨a, b⟩, c⟩
      exact ⟨a, by simpa using b, fun e c' r => c ((mem j hj a).2 ⟨e, c', r⟩)⟩
    · rintro ⟨a, b, c⟩
      refine ⟨⟨a, by simpa using b⟩, fun k => ?_⟩
      obtain ⟨e, c', r⟩ := (mem j hj a).1 k
      exact c e c' r
  obtain ⟨g1, g2⟩ := gone_to (h := (h : Int)) (list := (w.H h).t.list) (L := L) (m := m) (fun j hj hg => by
    obtain ⟨a, b, c⟩ := (gp j hj).1 hg
    exact ((hnr j hj a c).norow c).1) m (Nat.le_refl _)
  -- what the marking does
  have e1 : ∀ j, j < m → ¬ ((w.N j).host = (h : Int) ∧ ∀ e c, ¬ w.row j e c) → goneL h (w.H h).t.list L m j = L j := fun j hj hn => by
    unfold goneL; rw [if_neg]
    rintro ⟨_, k⟩
    obtain ⟨a, b, c⟩ := (gp j hj).1 k
    exact hn ⟨a, c⟩
  have e2 : ∀ j, j < m → (w.N j).host = (h : Int) → (∀ e c, ¬ w.row j e c) → goneL h (w.H h).t.list L m j = { L j with gone := true } := fun j hj hh ha => by
    unfold goneL
    cases hg : (L j).gone with
    | false => rw [if_pos ⟨hj, (gp j hj).2 ⟨hh, hg, ha⟩⟩]
    | true =>
      rw [if_neg (fun k => by have := ((gp j hj).1 k.2).2.1; rw [hg] at this; cases this)]
      cases hx : L j with
      | mk a1 a2 a3 a4 a5 a6 a7 a8 a9 a10 a11 a12 a13 a14 a15 a16 => rw [hx] at hg; simp only at hg; rw [hg]
  have peers : ∀ j, (goneL h (w.H h).t.list L m j).peer = (L j).peer := fun j => by unfold goneL; split <;> rfl
  have C' : ∀ j, j < m → NetC w (goneL h (w.H h).t.list L m) j := fun j hj => by
    by_cases hx : (w.N j).host = (h : Int) ∧ ∀ e c, ¬ w.row j e c
    · have C := hc j hj
      have e := e2 j hj hx.1 hx.2
      exact ⟨by rw [e]; exact ⟨C.id.host, C.id.sd, C.id.lp, C.id.rh, C.id.rp, C.id.cl⟩, by rw [e]; exact C.sent, by rw [e]; exact C.closed, by rw [e]; exact C.kid, by rw [e]; exact C.rdl, by rw [e]; exact C.pre, by rw [e]; exact C.off, by rw [e]; exact C.pfn, by rw [e]; exact C.fin⟩
    · exact (hc j hj).congr (e1 j hj hx)
  refine ⟨_, g1, g2, C', fun j hj hlt => ?_, fun j hj hle => ?_, fun j => by unfold goneL; split <;> rfl⟩
  · by_cases hx : (w.N j).host = (h : Int) ∧ ∀ e c, ¬ w.row j e c
    · have e := e2 j hj hx.1 hx.2
      obtain ⟨a, b, c⟩ := (hnr j hj hx.1 hx.2).norow hx.2
      exact ⟨C' j hj, by rw [e]; exact b, by rw [e]; exact c, fun e' c' r => absurd r (hx.2 e' c'), fun _ => by rw [e]; exact ⟨rfl, a⟩⟩
    · have e := e1 j hj hx
      by_cases hh : (w.N j).host = (h : Int)
      · have hrr : ∃ e c, w.row j e c := by
          by_cases hq : ∃ e c, w.row j e c
          · exact hq
          · exact absurd ⟨hh, fun e c r => hq ⟨e, c, r⟩⟩ hx
        exact (hr j hj hh hrr).congr e
      · exact (hd j hj (by omega)).congr e
  · have e := e1 j hj (fun k => by omega)
    exact (ht j hj (by omega)).congr e (fun j' hj' hs => by rw [peers]; exact hs)
/-- A LOOK AT ONE HOST -/
theorem look_host {w : W} (I : Inv w) (kc : KC w) {del : Nat → Int} {L : Nat → Ned} {m h : Nat} (h3 : h < 3) (S : Stage w del L m h) :
    ∃ L1 L' m', lookRows del (w.H h) h (w.H h).t.list (LL L m) = some (LL L1 m') ∧ goneTo h (w.H h).t.list (LL L1 m') m' = LL L' m' ∧ (∀ k, k < m' → goneP h (w.H h).t.list (goneL h (w.H h).t.list L1 k k) = true → nUnl (LL (goneL h (w.H h).t.list L1 k) m') k = true) ∧ Stage w del L' m' (h + 1) ∧ m ≤ m' ∧ ∀ j, j < m → (∀ e c, ¬ w.row j e c) → (L' j).why = (L j).why := by
  have HI := I.hi h h3
  obtain ⟨l1, l2, l3⟩ := HI.good.r.list
  have hmn : m ≤ w.n := by
    rcases S.hm with k | ⟨hb, _, k⟩
    · omega
    · have := k.n; omega
  have endof : ∀ sd e, (w.H h).t.at sd = some e → e.kind = 2 → ∃ i, i < w.n ∧ (w.N i).host = (h : Int) ∧ (w.N i).sd = sd ∧ w.row i e ((w.H h).c e.slot.toNat) := fun sd e he hk => by
    obtain ⟨i, i1, i2, i3, i4, i5, r⟩ := I.end_of h3 he hk
    exact ⟨i, i1, i2, i3, r⟩
  have memrow : ∀ j, j < w.n → (w.N j).host = (h : Int) → (∃ e c, w.row j e c) → (w.N j).sd ∈ (w.H h).t.list := fun j hj hh ⟨e, c, r⟩ => by
    have hw : w.host j = w.H h := by unfold W.host; rw [hh]; simp
    exact (l3 _).2 ⟨e, by rw [← hw]; exact r.at_⟩
  by_cases hb : m < w.n ∧ BornAt w del m h
  · obtain ⟨hlt, B⟩ := hb
    obtain ⟨e, c, p, ep, cp, r, q2, q3, q4, q5, q6, q7, rp⟩ := B.row
    have hmw : w.host m = w.H h := by unfold W.host; rw [B.host]; simp
    have hmem : (w.N m).sd ∈ (w.H h).t.list := memrow m hlt B.host ⟨e, c, r⟩
    obtain ⟨la, hla⟩ := sorted_last l1 hmem (fun y hy => by
      obtain ⟨e', he'⟩ := (l3 y).1 hy
      exact B.max y e' he')
    have hnd : la.Nodup ∧ (w.N m).sd ∉ la := by
      have := sorted_nodup l1
      rw [hla] at this
      rw [List.nodup_append] at this
      exact ⟨this.1, fun k => this.2.2 _ k _ (by simp) rfl⟩
    obtain ⟨L1, t1, t2, t3, t4⟩ := look_rows I h3 hmn S.mm la L hnd.1 (fun sd hsd => by
      obtain ⟨e', he'⟩ := (l3 sd).1 (by rw [hla]; exact List.mem_append_left _ hsd)
      refine ⟨e', he', fun hk => ?_⟩
      obtain ⟨i, i1, i2, i3, i4⟩ := endof sd e' he' hk
      refine ⟨i, ?_, i2, i3⟩
      have : i ≠ m := fun k => by subst k; rw [i3] at hnd; exact hnd.2 hsd
      have := B.n; omega) S.c (fun j hj hh _ => S.todo j hj (by omega))
    have hkc : (w.N m).client = false := by rw [q7]; rfl
    obtain ⟨p', p1, p2, p3, p4, _⟩ := I.kid m hlt hkc
    have hpp : p' = p := by
      have : (w.N m).peer = (p : Int) := by rw [q7]; rfl
      omega
    subst hpp
    obtain ⟨b1, b2⟩ := see_born I B.n h3 r q2 q3 q4 q5 B.host q6 q7 p3 p4 rp B.del t2
    have hat : (w.H h).t.at (w.N m).sd = some e := by rw [← hmw]; exact r.at_
    have hrows : lookRows del (w.H h) h (w.H h).t.list (LL L m) = some (LL (upA L1 m (kidN h e (p' : Int))) w.n) := by
      rw [hla, lookRows_app del (w.H h) h la _ _ _ t1]
      simp only [lookRows]
      rw [(ent_of hat).1, if_pos r.kind, info_of hat r.kind]
      have hc : (w.H h).c e.slot.toNat = c := by rw [r.c, hmw]
      rw [hc, b1]
    have e0 : ∀ j, j < m → upA L1 m (kidN h e (p' : Int)) j = L1 j := fun j hj => upA_ne _ _ (by omega)
    have cs : ∀ j, j < w.n → j < m ∨ j = m := fun j hj => by have := B.n; omega
    have sync : ∀ j, j < w.n → (L j).peer = (w.N j).peer → (upA L1 m (kidN h e (p' : Int)) j).peer = (w.N j).peer := fun j hj hs => by
      rcases cs j hj with k | k
      · rw [e0 j k]
        by_cases hx : j < m ∧ (w.N j).host = (h : Int) ∧ (w.N j).sd ∈ la ∧ ∃ e c, w.row j e c
        · exact (t4 j hx.1 hx.2.1 hx.2.2.1 hx.2.2.2).peer
        · rw [t3 j hx]; exact hs
      · subst k; exact b2.peer
    have c2 : ∀ j, j < w.n → NetC w (upA L1 m (kidN h e (p' : Int))) j := fun j hj => by
      rcases cs j hj with k | k
      · exact (t2 j k).congr (e0 j k)
      · subst k; exact b2.c
    have inla : ∀ j, j < m → (w.N j).host = (h : Int) → (∃ e c, w.row j e c) → (w.N j).sd ∈ la := fun j hj hh hr => by
      have h1 := memrow j (by omega) hh hr
      rw [hla, List.mem_append] at h1
      rcases h1 with k | k
      · exact k
      · have k : (w.N j).sd = (w.N m).sd := by simpa using k
        have := I.uniq j m (by omega) hlt (hh.trans B.host.symm) k
        omega
    obtain ⟨L', g1, g2, g3, g4, g5, g6⟩ := look_gone I kc (del := del) h3 (Nat.le_refl w.n) c2 (fun j hj hlt' => by
      rcases cs j hj with k | k
      · refine (S.done j k hlt').congr ?_
        rw [e0 j k]; exact t3 j (fun q => by have := q.2.1; omega)
      · subst k; have := B.host; omega) (fun j hj hh hr => by
      rcases cs j hj with k | k
      · exact (t4 j k hh (inla j k hh hr) hr).congr (e0 j k)
      · subst k; exact b2) (fun j hj hh ha => by
      rcases cs j hj with k | k
      · refine (S.todo j k (by omega)).congr ?_ sync
        rw [e0 j k]; exact t3 j (fun q => by obtain ⟨a, b, r⟩ := q.2.2.2; exact ha a b r)
      · subst k; exact absurd r (ha e c)) (fun j hj hh => by
      rcases cs j hj with k | k
      · refine (S.todo j k (by omega)).congr ?_ sync
        rw [e0 j k]; exact t3 j (fun q => by have := q.2.1; omega)
      · subst k; have := B.host; omega)
    exact ⟨_, L', w.n, hrows, g1, g2, ⟨g3, g4, g5, fun i p hi mm => mm.hp, .inl rfl⟩, hmn, fun j hj ha => by rw [g6, e0 j hj, t3 j (fun q => by obtain ⟨a, b, r⟩ := q.2.2.2; exact ha a b r)]⟩
  · -- no birth here
    have notm : ∀ i, i < w.n → (w.N i).host = (h : Int) → i < m := fun i hi hh => by
      rcases S.hm with k | ⟨hb', k1, k2⟩
      · omega
      · have := k2.n
        by_cases him : i = m
        · subst him
          have h1 := k2.host
          have : hb' = h := by omega
          subst this
          exact absurd ⟨hi, k2⟩ hb
        · omega
    obtain ⟨L1, t1, t2, t3, t4⟩ := look_rows I h3 hmn S.mm (w.H h).t.list L (sorted_nodup l1) (fun sd hsd => by
      obtain ⟨e', he'⟩ := (l3 sd).1 hsd
      refine ⟨e', he', fun hk => ?_⟩
      obtain ⟨i, i1, i2, i3, i4⟩ := endof sd e' he' hk
      exact ⟨i, notm i i1 i2, i2, i3⟩) S.c (fun j hj hh _ => S.todo j hj (by omega))
    have sync : ∀ j, j < w.n → (L j).peer = (w.N j).peer → (L1 j).peer = (w.N j).peer := fun j hj hs => by
      by_cases hx : j < m ∧ (w.N j).host = (h : Int) ∧ (w.N j).sd ∈ (w.H h).t.list ∧ ∃ e c, w.row j e c
      · exact (t4 j hx.1 hx.2.1 hx.2.2.1 hx.2.2.2).peer
      · rw [t3 j hx]; exact hs
    obtain ⟨L', g1, g2, g3, g4, g5, g6⟩ := look_gone I kc (del := del) h3 hmn t2 (fun j hj hlt' => (S.done j hj hlt').congr (t3 j (fun q => by have := q.2.1; omega))) (fun j hj hh hr => t4 j hj hh (memrow j (by omega) hh hr) hr) (fun j hj hh ha => (S.todo j hj (by omega)).congr (t3 j (fun q => by obtain ⟨a, b, r⟩ := q.2.2.2; exact ha a b r)) sync) (fun j hj hh => (S.todo j hj (by omega)).congr (t3 j (fun q => by have := q.2.1; omega)) sync)
    refine ⟨L1, L', m, t1, g1, g2, ⟨g3, g4, g5, S.mm, ?_⟩, Nat.le_refl m, fun j hj ha => by rw [g6, t3 j (fun q => by obtain ⟨a, b, r⟩ := q.2.2.2; exact ha a b r)]⟩
    rcases S.hm with k | ⟨hb', k1, k2⟩
    · exact .inl k
    · refine .inr ⟨hb', ?_, k2⟩
      by_cases hx : hb' = h
      · subst hx
        exact absurd ⟨by have := k2.n; omega, k2⟩ hb
      · omega
end Go.Proofs.Qxb6500351aGreat
