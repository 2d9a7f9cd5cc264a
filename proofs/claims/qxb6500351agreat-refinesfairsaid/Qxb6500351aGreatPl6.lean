/- THE PLAIN LAW of the table, part 6: children get ready, are accepted. No Go in sight. -/
import Derived.Test.Qxb6500351aGreatPl5
set_option linter.unusedVariables false
set_option linter.unusedSimpArgs false
namespace Go.Proofs.Qxb6500351aGreat
open Go.Eng
/-! ### queues -/
theorem wrap0 {h : Int} (k : 0 ≤ h ∧ h < 2) : wrapF (h + 0) = h := by unfold wrapF; split <;> omega
theorem wrap1 {h : Int} (k : 0 ≤ h ∧ h < 2) : wrapF (h + 1) = 1 - h := by unfold wrapF; split <;> omega
theorem Rw.Q.enq {r : Rw} {q : List Int} (Q : r.Q q) (sd : Int) (h : q.length < 2) : Rw.Q { r with ring := upA r.ring (wrapF (r.head + r.n)).toNat sd, n := r.n + 1 } (q ++ [sd]) := by
  have hn := Q.n
  have hh := Q.head
  have a0 := Q.at0
  have w1 := wrap1 hh
  match q, h, hn, a0 with
  | [], _, hn, _ =>
    have e : r.n = 0 := hn
    have w : wrapF (r.head + r.n) = r.head := by rw [e]; exact wrap0 hh
    refine ⟨by dsimp only; rw [e]; rfl, by simp, hh, fun x hx => ?_, fun x hx => by simp at hx⟩
    simp at hx; subst hx
    dsimp only; rw [w, upA_at]
  | [a], _, hn, a0 =>
    have e : r.n = 1 := hn
    have w : wrapF (r.head + r.n) = 1 - r.head := by rw [e]; exact w1
    refine ⟨by dsimp only; rw [e]; rfl, Nat.le_refl 2, hh, fun x hx => ?_, fun x hx => ?_⟩
    · simp at hx; subst hx
      dsimp only; rw [w, upA_ne _ _ (by omega)]
      exact a0 a rfl
    · simp at hx; subst hx
      dsimp only; rw [w, w1, upA_at]
theorem Rw.Q.deq {r : Rw} {a : Int} {q : List Int} (Q : r.Q (a :: q)) : r.ring r.head.toNat = a ∧ Rw.Q { r with head := wrapF (r.head + 1), n := r.n - 1 } q := by
  have hn := Q.n
  have hl := Q.len
  have hh := Q.head
  have w1 := wrap1 hh
  refine ⟨Q.at0 a rfl, ?_⟩
  simp only [List.length_cons] at hn hl
  refine ⟨by dsimp only; omega, by omega, by dsimp only; omega, fun x hx => ?_, fun x hx => ?_⟩
  · dsimp only
    have := Q.at1 x (by simpa using hx)
    exact this
  · have : q.length ≤ 1 := by omega
    rw [List.getElem?_eq_none (by omega)] at hx; cases hx
theorem Rw.Q.leave {r : Rw} {q : List Int} (Q : r.Q q) (hd : q.Nodup) (sd : Int) : (r.leave sd).Q (q.erase sd) := by
  have hn := Q.n
  have hl := Q.len
  have hh := Q.head
  have w1 := wrap1 hh
  have w0 := wrap0 hh
  have a0 := Q.at0
  have a1 := Q.at1
  match q, hn, hl, a0, a1, hd, Q with
  | [], hn, _, _, _, _, Q =>
    have e : r.n = 0 := hn
    unfold Rw.leave
    rw [if_pos (by omega)]; exact Q
  | [a], hn, _, a0, _, _, Q =>
    have e : r.n = 1 := hn
    have ea := a0 a rfl
    unfold Rw.leave
    rw [if_neg (by omega), w0, ea]
    by_cases h : a = sd
    · subst h
      rw [if_pos rfl, if_neg (by omega), List.erase_cons_head]
      exact ⟨by show r.n - 1 = 0; omega, Nat.zero_le _, hh, fun x hx => by simp at hx, fun x hx => by simp at hx⟩
    · rw [if_neg h, if_pos (by omega), List.erase_cons_tail (by simpa using h)]
      exact Q
  | [a, b], hn, _, a0, a1, hd, Q =>
    have e : r.n = 2 := hn
    have ea := a0 a rfl
    have eb := a1 b rfl
    have hab : a ≠ b := by
      have := (List.nodup_cons.1 hd).1; simpa using this
    have z1 : wrapF (r.head + (0 + 1)) = wrapF (r.head + 1) := rfl
    have z2 : wrapF (r.head + 0 + 1) = wrapF (r.head + 1) := by rw [Int.add_zero]
    unfold Rw.leave
    rw [if_neg (by omega), w0, ea, z1, z2, eb]
    by_cases h : a = sd
    · subst h
      rw [if_pos rfl, if_pos (by omega), List.erase_cons_head]
      refine ⟨by show r.n - 1 = 1; omega, (by decide : 1 ≤ 2), hh, fun x hx => ?_, fun x hx => by simp at hx⟩
      simp at hx; subst hx; dsimp only; rw [upA_at]
    · rw [if_neg h, if_neg (by omega), List.erase_cons_tail (by simpa using h)]
      by_cases h2 : b = sd
      · subst h2
        rw [if_pos rfl, List.erase_cons_head]
        refine ⟨by show r.n - 1 = 1; omega, (by decide : 1 ≤ 2), hh, fun x hx => ?_, fun x hx => by simp at hx⟩
        simp at hx; subst hx; exact ea
      · rw [if_neg h2, List.erase_cons_tail (by simpa using h2)]
        exact Q
  | a :: b :: c :: q, _, hl, _, _, _, _ => simp only [List.length_cons] at hl; omega
def updQ (q : Int → List Int) (l : Int) (x : List Int) (j : Int) : List Int := if j = l then x else q j
theorem updQ_at (q : Int → List Int) (l : Int) (x : List Int) : updQ q l x l = x := by simp [updQ]
theorem updQ_ne (q : Int → List Int) {l j : Int} (x : List Int) (h : j ≠ l) : updQ q l x j = q j := by simp [updQ, h]
/-- how many kids a queue leaves room for -/
theorem Tb.Good.q_len {t : Tb} {q : Int → List Int} (g : t.Good q) {l i : Nat} {f e : En} (hl : l < 6) (hf : t.es l = some f) (hfk : f.kind = 1) (hi : i < 6) (he : t.es i = some e) (hep : e.parent = f.sd) (her : e.ready = false) : (q f.sd).length < 2 := by
  -- every queued sd is a row of its own, and row i is one more: at most two kids
  obtain ⟨k1, k2⟩ := g.q.kids l f hl hf hfk
  rw [k1] at k2
  have hlen := (g.q.rw l f hl hf hfk).len
  by_cases h : (q f.sd).length < 2
  · exact h
  · exfalso
    match hq : q f.sd, h, hlen with
    | [a, b], _, _ =>
      have ha : a ∈ q f.sd := by rw [hq]; simp
      have hb : b ∈ q f.sd := by rw [hq]; simp
      have hab : a ≠ b := by
        have := g.q.nd f.sd; rw [hq] at this
        have := (List.nodup_cons.1 this).1; simpa using this
      obtain ⟨x, ex, x1, x2, x3, x4, x5, x6⟩ := (g.q.m f.sd a).1 ha
      obtain ⟨y, ey, y1, y2, y3, y4, y5, y6⟩ := (g.q.m f.sd b).1 hb
      have hxy : x ≠ y := fun h => by subst h; rw [x2] at y2; cases y2; exact hab (x3.symm.trans y3)
      have hxi : x ≠ i := fun h => by subst h; rw [x2] at he; cases he; rw [x6] at her; cases her
      have hyi : y ≠ i := fun h => by subst h; rw [y2] at he; cases he; rw [y6] at her; cases her
      have px : isKid f.sd (t.es x) = true := by rw [x2]; simp [isKid, x5]
      have py : isKid f.sd (t.es y) = true := by rw [y2]; simp [isKid, y5]
      have pi : isKid f.sd (t.es i) = true := by rw [he]; simp [isKid, hep]
      have c1 := cnt6_one (P := fun j => isKid f.sd (t.es j)) (Q := fun j => if j = x then false else isKid f.sd (t.es j)) x x1 (fun j _ hj => by rw [if_neg hj])
      have c2 := cnt6_one (P := fun j => if j = x then false else isKid f.sd (t.es j)) (Q := fun j => if j = y then false else if j = x then false else isKid f.sd (t.es j)) y y1 (fun j _ hj => by rw [if_neg hj])
      have c3 := cnt6_pos (P := fun j => if j = y then false else if j = x then false else isKid f.sd (t.es j)) hi (by rw [if_neg hyi.symm, if_neg hxi.symm]; exact pi)
      rw [if_pos rfl, px] at c1
      rw [if_pos rfl, if_neg hxy.symm, py] at c2
      have e1 : b2 true = 1 := rfl
      have e2 : b2 false = 0 := rfl
      omega
    | [], h, _ => simp at h
    | [_], h, _ => simp at h
    | _ :: _ :: _ :: _, _, h => simp only [List.length_cons] at h; omega
/-! ### a child gets ready -/
theorem Tb.Good.ready {t : Tb} {q : Int → List Int} (g : t.Good q) {sd : Int} {e : En} (he : t.at sd = some e) (hp : e.parent ≠ 0) (hr : e.ready = false) :
    ∃ u, t.ready sd = (0, u) ∧ (q e.parent).length < 2 ∧ u.Good (updQ q e.parent (q e.parent ++ [sd])) ∧ u.nextSd = t.nextSd ∧ u.eph = t.eph ∧ (∀ x, u.at x = if x = sd then some { e with ready := true } else t.at x) ∧ (t.rows (t.lrow e.lPort).toNat).n < 2 := by
  obtain ⟨i, i1, i2, i3, i4⟩ := Tb.at_row he
  obtain ⟨l, f, l1, l2, l3, l4, l5⟩ := g.r.par i e i1 i3 hp
  have hie : (t.rows i).e = e := (Tb.es_some.1 i3).2
  have hiu : (t.rows i).used = true := (Tb.es_some.1 i3).1
  have hq := g.q_len l1 l2 l3 i1 i3 l4.symm hr
  rw [l4] at hq
  have hlr : t.lrow e.lPort = (l : Int) := by
    rcases g.r.lrow e.lPort with ⟨_, k⟩ | ⟨m, f', m1, m2, m3, m4, m5⟩
    · exact absurd l5 (k l f l1 l2 l3)
    · have : m = l := by
        have a := g.r.portA m f' m1 m3 m4
        have b := g.r.portA l f l1 l2 l3
        rw [m5, ← l5, b] at a; omega
      rw [m2, this]
  have hil : i ≠ l := fun h => by subst h; rw [l2] at i3; cases i3; rcases g.r.kind i e i1 l2 with k | k; exact hp k.parent; have := k.kind; omega
  have hke : ConE e := by
    rcases g.r.kind i e i1 i3 with k | k
    · exact absurd k.parent hp
    · exact k
  have hn := (g.q.rw l f l1 l2 l3).n
  rw [l4] at hn
  refine ⟨(t.setReady (t.find sd)).enqueue (t.lrow e.lPort) sd, ?_, hq, ?_⟩
  · unfold Tb.ready
    have e1 : (t.rows (t.find sd).toNat).e = e := by rw [i2, Int.toNat_natCast, hie]
    rw [e1, if_neg (by rw [i2]; omega), if_neg (by rw [hr]; decide), if_neg (by rw [hlr]; omega)]
  generalize hu : (t.setReady (t.find sd)).enqueue (t.lrow e.lPort) sd = u
  have hrow : ∀ j, u.rows j = if j = l then { (t.rows l) with ring := upA (t.rows l).ring (wrapF ((t.rows l).head + (t.rows l).n)).toNat sd, n := (t.rows l).n + 1 } else if j = i then { (t.rows i) with e := { e with ready := true } } else t.rows j := fun j => by
    rw [← hu]
    unfold Tb.enqueue Tb.setReady
    dsimp only
    rw [i2, hlr, Int.toNat_natCast, Int.toNat_natCast, hie, upA_ne t.rows _ hil.symm]
    by_cases hj : j = l
    · subst hj; rw [if_pos rfl, upA_at]
    · rw [if_neg hj, upA_ne _ _ hj]
      by_cases hj2 : j = i
      · subst hj2; rw [if_pos rfl, upA_at]
      · rw [if_neg hj2, upA_ne _ _ hj2]
  have hes : ∀ j, u.es j = if j = i then some { e with ready := true } else t.es j := fun j => by
    unfold Tb.es
    rw [hrow]
    by_cases hj : j = l
    · subst hj; rw [if_pos rfl, if_neg hil.symm]
    · rw [if_neg hj]
      by_cases hj2 : j = i
      · subst hj2; rw [if_pos rfl, if_pos rfl, if_pos hiu]
      · rw [if_neg hj2, if_neg hj2]
  have hnx : ∀ j, u.nx j = t.nx j := fun j => by
    unfold Tb.nx
    rw [hrow]
    by_cases hj : j = l
    · subst hj; rw [if_pos rfl]
    · rw [if_neg hj]
      by_cases hj2 : j = i
      · subst hj2; rw [if_pos rfl]
      · rw [if_neg hj2]
  have hsim : ∀ j, j < 6 → EsSim (t.es j) (u.es j) := fun j hj => by
    rw [hes]
    by_cases hj2 : j = i
    · subst hj2; rw [if_pos rfl, i3]; exact ⟨rfl, rfl, rfl, rfl, rfl, rfl⟩
    · rw [if_neg hj2]; exact EsSim.refl _
  have R : u.R := by
    refine g.r.mod hsim (by rw [← hu]; rfl) (by rw [← hu]; rfl) (by rw [← hu]; rfl) (by rw [← hu]; rfl) (fun j a b hj ha hb => ?_)
    rw [hes] at hb
    by_cases hj2 : j = i
    · subst hj2; rw [if_pos rfl] at hb; cases hb; rw [i3] at ha; cases ha
      exact ⟨.inl rfl, fun _ => hp, fun h => by have := hke.kind; omega⟩
    · rw [if_neg hj2, ha] at hb; cases hb
      refine ⟨.inl rfl, fun h => ?_, fun h => ?_⟩
      · rcases g.r.kind j a hj ha with k | k
        · rw [k.ready] at h; cases h
        · exact k.ready h
      · rcases g.r.kind j a hj ha with k | k
        · exact k.ready
        · have := k.kind; omega
  obtain ⟨fl, F⟩ := g.f
  obtain ⟨bl, B⟩ := g.b
  have hkid : ∀ x, cnt6 (fun j => isKid x (u.es j)) = cnt6 (fun j => isKid x (t.es j)) := fun x => cnt6_congr fun j _ => by
    rw [hes]
    by_cases hj2 : j = i
    · subst hj2; rw [if_pos rfl, i3]; rfl
    · rw [if_neg hj2]
  have hnm : sd ∉ q e.parent := fun hm => by
    obtain ⟨j, a, j1, j2, j3, j4, j5, j6⟩ := (g.q.m _ sd).1 hm
    have := g.r.sdD j i a e j1 i1 j2 i3 (by rw [j3, i4])
    subst this; rw [i3] at j2; cases j2; rw [hr] at j6; cases j6
  refine ⟨⟨R, ⟨fl, F.mod (by rw [← hu]; rfl) (fun j _ => (hnx j).symm) (fun j hj => ?_)⟩, ⟨bl, B.mod (by rw [← hu]; rfl) hnx hsim⟩, ⟨?_, ?_, ?_, ?_⟩⟩, by rw [← hu]; rfl, by rw [← hu]; rfl, ?_, ?_⟩
  · rw [hes]
    by_cases hj2 : j = i
    · subst hj2; rw [if_pos rfl, i3]; simp
    · rw [if_neg hj2]
  · intro m a hm ha hk
    rw [hes] at ha
    split at ha
    · cases ha; have := hke.kind; simp only at hk; omega
    · rename_i hmi
      rw [hrow]
      by_cases hml : m = l
      · subst hml
        rw [l2] at ha; cases ha
        rw [if_pos rfl, l4, updQ_at]
        have := g.q.rw m f l1 l2 l3
        rw [l4] at this
        exact this.enq sd hq
      · rw [if_neg hml, if_neg hmi, updQ_ne]
        · exact g.q.rw m a hm ha hk
        · intro h; exact hml (g.r.sdD m l a f hm l1 ha l2 (h.trans l4.symm))
  · intro lsd
    by_cases h : lsd = e.parent
    · subst h; rw [updQ_at]
      exact List.nodup_append.2 ⟨g.q.nd _, by simp, fun a ha b hb => by simp at hb; subst hb; intro h; subst h; exact hnm ha⟩
    · rw [updQ_ne _ _ h]; exact g.q.nd _
  · intro lsd x
    have old := g.q.m lsd x
    by_cases h : lsd = e.parent
    · subst h; rw [updQ_at, List.mem_append, old, List.mem_singleton]
      constructor
      · rintro (⟨j, a, j1, j2, j3⟩ | rfl)
        · refine ⟨j, a, j1, ?_, j3⟩
          rw [hes, if_neg]; exact j2
          intro hh; subst hh; rw [i3] at j2; cases j2; rw [hr] at j3; exact absurd j3.2.2.2 (by decide)
        · exact ⟨i, { e with ready := true }, i1, by rw [hes, if_pos rfl], i4, hke.kind, rfl, rfl⟩
      · rintro ⟨j, a, j1, j2, j3⟩
        rw [hes] at j2
        split at j2
        · cases j2; right; exact j3.1.symm.trans i4
        · exact .inl ⟨j, a, j1, j2, j3⟩
    · rw [updQ_ne _ _ h, old]
      constructor
      · rintro ⟨j, a, j1, j2, j3⟩
        refine ⟨j, a, j1, ?_, j3⟩
        rw [hes, if_neg]; exact j2
        intro hh; subst hh; rw [i3] at j2; cases j2; exact h j3.2.2.1.symm
      · rintro ⟨j, a, j1, j2, j3⟩
        rw [hes] at j2
        split at j2
        · cases j2; exact absurd j3.2.2.1.symm h
        · exact ⟨j, a, j1, j2, j3⟩
  · intro m a hm ha hk
    rw [hkid]
    rw [hes] at ha
    split at ha
    · cases ha; have := hke.kind; simp only at hk; omega
    · rename_i hmi
      have := g.q.kids m a hm ha hk
      rw [hrow]
      by_cases hml : m = l
      · subst hml; rw [if_pos rfl]; exact this
      · rw [if_neg hml, if_neg hmi]; exact this
  · intro x
    have := g.r.at_set R i1 hes (fun a ha => by rw [i3] at ha; cases ha; rfl) x
    rw [this]
    show (if x = e.sd then _ else _) = _
    rw [i4]
  · rw [hlr, Int.toNat_natCast, hn]; omega
end Go.Proofs.Qxb6500351aGreat
