/- THE PLAIN LAW of the table, part 9: listeners go; the list of all descriptors; the first table. No Go in sight. -/
import Derived.Test.Qxb6500351aGreatPl8
set_option linter.unusedVariables false
set_option linter.unusedSimpArgs false
namespace Go.Proofs.Qxb6500351aGreat
open Go.Eng
def orph (lsd : Int) (e : En) : En := if e.parent = lsd then e.owned else e
theorem orph_sd (lsd : Int) (e : En) : (orph lsd e).sd = e.sd := by unfold orph; split <;> rfl
theorem orph_sim (lsd : Int) (e : En) : Sim e (orph lsd e) := by unfold orph; split <;> exact ⟨rfl, rfl, rfl, rfl, rfl, rfl⟩
theorem Tb.kids_es {t : Tb} (lsd : Int) (j : Nat) (hj : j < 6) : (t.kidsTo lsd 6).es j = (t.es j).map (orph lsd) := by
  unfold Tb.es Tb.kidsTo
  dsimp only
  by_cases hu : (t.rows j).used = true
  · by_cases hp : (t.rows j).e.parent = lsd
    · simp [hj, hu, hp, orph, En.owned]
    · simp [hj, hu, hp, orph]
  · simp [hu]
theorem Tb.kids_row {t : Tb} (lsd : Int) (j : Nat) : ((t.kidsTo lsd 6).rows j).nxt_ = (t.rows j).nxt_ ∧ ((t.kidsTo lsd 6).rows j).kids = (t.rows j).kids ∧ ((t.kidsTo lsd 6).rows j).ring = (t.rows j).ring ∧ ((t.kidsTo lsd 6).rows j).head = (t.rows j).head ∧ ((t.kidsTo lsd 6).rows j).n = (t.rows j).n ∧ ((t.kidsTo lsd 6).rows j).used = (t.rows j).used := by
  unfold Tb.kidsTo
  dsimp only
  split <;> exact ⟨rfl, rfl, rfl, rfl, rfl, rfl⟩
/-- a listener's row goes -/
theorem Tb.Good.freeL {t : Tb} {q : Int → List Int} (g : t.Good q) {sd : Int} {e : En} (he : t.at sd = some e) (hk : e.kind = 1) :
    ∃ u, t.freeSd sd = (0, u) ∧ u.Good (updQ q sd []) ∧ u.nextSd = t.nextSd ∧ u.eph = t.eph ∧ ∀ x, u.at x = if x = sd then none else (t.at x).map (orph sd) := by
  obtain ⟨i, i1, i2, i3, i4⟩ := Tb.at_row he
  have hle := g.kindL i1 i3 hk
  have hie : (t.rows i).e = e := (Tb.es_some.1 i3).2
  have hsd := g.r.sd i e i1 i3
  obtain ⟨fl, F⟩ := g.f
  obtain ⟨bl, B⟩ := g.b
  have e0 : t.freeSd sd = (0, (t.freeL (i : Int) sd).give (i : Int)) := by
    unfold Tb.freeSd Tb.freeT
    rw [i2, if_neg (by omega), Int.toNat_natCast, hie, if_pos hk]
  refine ⟨_, e0, ?_⟩
  unfold Tb.freeL
  rw [Int.toNat_natCast, hie]
  generalize ht1 : t.kidsTo sd 6 = t1
  have R1 : t1.R := by
    rw [← ht1]
    refine g.r.mod (fun j hj => ?_) rfl rfl rfl rfl (fun j a b hj ha hb => ?_)
    · rw [Tb.kids_es _ _ hj]
      cases t.es j with
      | none => trivial
      | some a => exact orph_sim _ _
    · rw [Tb.kids_es _ _ hj, ha] at hb
      simp only [Option.map_some, Option.some.injEq] at hb
      subst hb
      unfold orph
      split
      · rename_i h
        refine ⟨.inr ⟨?_, rfl⟩, fun h => absurd (show false = true from h) (by decide), fun _ => rfl⟩
        rcases g.r.kind j a hj ha with k | k
        · have := k.parent; omega
        · exact k.kind
      · refine ⟨.inl rfl, fun h => ?_, fun h => (g.kindL hj ha h).ready⟩
        rcases g.r.kind j a hj ha with k | k
        · rw [k.ready] at h; cases h
        · exact k.ready h
  generalize hu : (Tb.kidsTo { t with port := upA t.port e.lPort.toNat (-1), listeners := t.listeners - 1 } sd 6).give (i : Int) = u
  have hrow : u.rows = upA t1.rows i { Rw.zero with nxt_ := t.free } := by rw [← hu, ← ht1]; unfold Tb.give; dsimp only; rw [Int.toNat_natCast]; rfl
  have c : u.port = upA t.port e.lPort.toNat (-1) ∧ u.blocks = t.blocks ∧ u.listeners = t.listeners - 1 ∧ u.nextSd = t.nextSd ∧ u.eph = t.eph ∧ u.bucket = t.bucket ∧ u.free = (i : Int) := by
    rw [← hu]; exact ⟨rfl, rfl, rfl, rfl, rfl, rfl, rfl⟩
  have c1 : t1.port = t.port ∧ t1.blocks = t.blocks ∧ t1.listeners = t.listeners ∧ t1.nextSd = t.nextSd := by rw [← ht1]; exact ⟨rfl, rfl, rfl, rfl⟩
  have hes1 : ∀ j, u.es j = if j = i then none else t1.es j := es_upA0 hrow rfl
  have hes : ∀ j, j < 6 → u.es j = if j = i then none else (t.es j).map (orph sd) := fun j hj => by
    rw [hes1, ← ht1, Tb.kids_es _ _ hj]
  have hnx : ∀ j, j ≠ i → u.nx j = t.nx j := fun j hj => by
    rw [nx_upA hrow, if_neg hj, ← ht1]
    exact (t.kids_row sd j).1
  have ho : orph sd e = e := by unfold orph; rw [if_neg]; have := hle.parent; omega
  have hi1 : t1.es i = some e := by rw [← ht1, Tb.kids_es _ _ i1, i3]; simp [ho]
  have hne2 : e.kind = 2 → False := fun h => by omega
  have R : u.R := by
    refine R1.del i1 hi1 hes1 (c.2.2.2.1.trans c1.2.2.2.symm) (fun _ => by rw [c1.1]; exact c.1) (fun h => (hne2 h).elim) (fun h => (hne2 h).elim) (fun _ => c.2.1.trans c1.2.1.symm) (fun _ j a hj ha => ?_) ?_
    · rw [← ht1, Tb.kids_es _ _ hj, Option.map_eq_some_iff] at ha
      obtain ⟨b, b1, b2⟩ := ha
      rw [← b2]
      unfold orph
      split
      · show (0 : Int) ≠ e.sd; omega
      · rename_i h; rw [i4]; exact h
    · rw [c.2.2.1, c1.2.2.1]
      have : b2 (decide (e.kind = 1)) = 1 := by simp [b2, hk]
      omega
  have hifl : i ∉ fl := fun h => by have := (F.m i).1 h; rw [i3] at this; exact absurd this.2 (by simp)
  have fwd : ∀ j a, j < 6 → j ≠ i → t.es j = some a → u.es j = some (orph sd a) := fun j a hj hji ha => by rw [hes j hj, if_neg hji, ha]; rfl
  have back : ∀ j b, j < 6 → u.es j = some b → j ≠ i ∧ ∃ a, t.es j = some a ∧ b = orph sd a := fun j b hj hb => by
    rw [hes j hj] at hb
    split at hb
    · cases hb
    · rename_i hji
      rw [Option.map_eq_some_iff] at hb
      obtain ⟨a, a1, a2⟩ := hb
      exact ⟨hji, a, a1, a2.symm⟩
  refine ⟨⟨R, ⟨i :: fl, ?_⟩, ⟨bl, ?_⟩, ?_⟩, c.2.2.2.1, c.2.2.2.2.1, ?_⟩
  · refine ⟨⟨c.2.2.2.2.2.2, ?_⟩, List.nodup_cons.2 ⟨hifl, F.n⟩, fun j => ?_⟩
    · rw [nx_upA hrow, if_pos rfl]
      show Chn u.nx t.free fl
      refine Chn.congr (fun j hj => ?_) F.c
      have hji : j ≠ i := fun h => by subst h; exact hifl hj
      rw [hnx j hji]
    · rw [List.mem_cons]
      constructor
      · rintro (rfl | h)
        · exact ⟨i1, by rw [hes1, if_pos rfl]⟩
        · obtain ⟨a, b⟩ := (F.m j).1 h
          refine ⟨a, ?_⟩
          rw [hes j a, b]; split <;> rfl
      · rintro ⟨a, b⟩
        by_cases hj : j = i
        · exact .inl hj
        · right
          rw [hes j a, if_neg hj, Option.map_eq_none_iff] at b
          exact (F.m j).2 ⟨a, b⟩
  · have him : ∀ h, h < 4 → i ∉ bl h := fun h hh hm => by
      obtain ⟨_, a, k1, k2, _⟩ := (B.m h hh i).1 hm
      rw [i3] at k1; cases k1; omega
    refine ⟨fun h hh => ?_, B.n, fun h hh j => ?_⟩
    · rw [c.2.2.2.2.2.1]
      exact Chn.congr (fun j hj => (hnx j (fun hji => by subst hji; exact him h hh hj)).symm) (B.c h hh)
    · rw [B.m h hh j]
      constructor
      · rintro ⟨a, b, k1, k2, k3⟩
        have hji : j ≠ i := fun hji => by subst hji; rw [i3] at k1; cases k1; omega
        exact ⟨a, _, fwd j b a hji k1, (orph_sim sd b).kind ▸ k2, (orph_sim sd b).hsh ▸ k3⟩
      · rintro ⟨a, b, k1, k2, k3⟩
        obtain ⟨hji, b', k4, k5⟩ := back j b a k1
        subst k5
        exact ⟨a, b', k4, (orph_sim sd b').kind.trans k2, (orph_sim sd b').hsh.trans k3⟩
  · refine ⟨?_, ?_, ?_, ?_⟩
    · intro l f hl hf hfk
      obtain ⟨hli, a, k4, k5⟩ := back l f hl hf
      have hak : a.kind = 1 := by rw [(orph_sim sd a).kind, ← k5]; exact hfk
      have has : f.sd = a.sd := by rw [k5, orph_sd]
      have hns : f.sd ≠ sd := fun h => hli (g.r.sdD l i a e hl i1 k4 i3 (by rw [← has, h, i4]))
      rw [updQ_ne _ _ hns, has]
      have := g.q.rw l a hl k4 hak
      obtain ⟨_, _, r1, r2, r3, _⟩ := t.kids_row sd l
      rw [hrow, upA_ne _ _ hli, ← ht1]
      exact ⟨by rw [r3]; exact this.n, this.len, by rw [r2]; exact this.head, by rw [r1, r2]; exact this.at0, by rw [r1, r2]; exact this.at1⟩
    · intro x
      by_cases h : x = sd
      · subst h; rw [updQ_at]; exact List.nodup_nil
      · rw [updQ_ne _ _ h]; exact g.q.nd _
    · intro x y
      have old := g.q.m x y
      by_cases h : x = sd
      · subst h; rw [updQ_at]
        refine ⟨fun h => absurd h (by simp), ?_⟩
        rintro ⟨j, a, j1, j2, j3, j4, j5, j6⟩
        obtain ⟨hji, b, k4, k5⟩ := back j a j1 j2
        rw [k5] at j5
        unfold orph at j5
        split at j5
        · have : (0 : Int) = x := j5; omega
        · rename_i h; exact absurd j5 h
      · rw [updQ_ne _ _ h, old]
        constructor
        · rintro ⟨j, a, j1, j2, j3, j4, j5, j6⟩
          have hji : j ≠ i := fun hji => by subst hji; rw [i3] at j2; cases j2; omega
          have : orph sd a = a := by unfold orph; rw [if_neg]; rw [j5]; exact h
          exact ⟨j, a, j1, by rw [fwd j a j1 hji j2, this], j3, j4, j5, j6⟩
        · rintro ⟨j, a, j1, j2, j3, j4, j5, j6⟩
          obtain ⟨hji, b, k4, k5⟩ := back j a j1 j2
          unfold orph at k5
          split at k5
          · rw [k5] at j6; exact absurd (show false = true from j6) (by decide)
          · subst k5; exact ⟨j, a, j1, k4, j3, j4, j5, j6⟩
    · intro l f hl hf hfk
      obtain ⟨hli, a, k4, k5⟩ := back l f hl hf
      have hak : a.kind = 1 := by rw [(orph_sim sd a).kind, ← k5]; exact hfk
      have has : f.sd = a.sd := by rw [k5, orph_sd]
      have hns : a.sd ≠ sd := fun h => hli (g.r.sdD l i a e hl i1 k4 i3 (by rw [h, i4]))
      obtain ⟨q1, q2⟩ := g.q.kids l a hl k4 hak
      have hls := (g.r.sd l a hl k4).1
      rw [hrow, upA_ne _ _ hli, ← ht1, (t.kids_row sd l).2.1, has]
      refine ⟨?_, q2⟩
      rw [q1]
      refine cnt6_congr fun j hj => ?_
      rw [hes j hj]
      by_cases hji : j = i
      · subst hji; rw [if_pos rfl, i3]
        have : ¬ e.parent = a.sd := by have := hle.parent; omega
        simp [isKid, this]
      · rw [if_neg hji]
        cases t.es j with
        | none => rfl
        | some b =>
          simp only [Option.map_some, isKid]
          unfold orph
          split
          · rename_i h
            have h1 : ¬ b.parent = a.sd := by rw [h]; exact fun h => hns h.symm
            have h2 : ¬ b.owned.parent = a.sd := by show ¬ (0 : Int) = a.sd; omega
            simp [h1, h2]
          · rfl
  · intro x
    have h1 := R1.at_del R i1 hi1 hes1 x
    rw [h1, i4]
    have h2 := g.r.at_map R1 (orph_sd sd) (fun j hj => by rw [← ht1]; exact Tb.kids_es sd j hj) x
    rw [h2]
/-! ### the list -/
theorem getD_app {l m : List Int} {x d : Int} {n : Nat} (h : l.length = n) : (l ++ x :: m).getD n d = x := by
  subst h; simp [List.getD_eq_getElem?_getD]
theorem sink_spec : ∀ (k : Nat) (P : List Int) (x : Int) (Z : List Int), P.length = k → ∃ P2, sink (P ++ x :: Z) k = P2 ++ Z ∧ P2.length = k + 1 ∧ P2.Perm (x :: P) ∧ (P.Pairwise (· < ·) → x ∉ P → P2.Pairwise (· < ·))
  | 0, P, x, Z, h => by
    have : P = [] := List.eq_nil_of_length_eq_zero h
    subst this
    exact ⟨[x], rfl, rfl, List.Perm.refl _, fun _ _ => List.pairwise_singleton ..⟩
  | k + 1, P, x, Z, h => by
    have hne : P ≠ [] := fun e => by subst e; cases h
    obtain ⟨P', y, rfl⟩ : ∃ P' y, P = P' ++ [y] := ⟨P.dropLast, P.getLast hne, (List.dropLast_concat_getLast hne).symm⟩
    have hl : P'.length = k := by simpa using h
    have e1 : (P' ++ [y] ++ x :: Z) = P' ++ y :: x :: Z := by simp
    rw [e1]
    unfold sink
    have g1 : (P' ++ y :: x :: Z).getD k 0 = y := getD_app hl
    have g2 : (P' ++ y :: x :: Z).getD (k + 1) 0 = x := by
      have : P' ++ y :: x :: Z = (P' ++ [y]) ++ x :: Z := by simp
      rw [this]; exact getD_app h
    rw [g1, g2]
    by_cases hxy : x < y
    · rw [if_pos hxy]
      have e2 : ((P' ++ y :: x :: Z).set k x).set (k + 1) y = P' ++ x :: (y :: Z) := by
        rw [List.set_append_right _ _ (by omega), hl, Nat.sub_self, List.set_cons_zero, List.set_append_right _ _ (by omega), hl]
        have : k + 1 - k = 1 := by omega
        rw [this]; rfl
      rw [e2]
      obtain ⟨P2, k1, k2, k3, k4⟩ := sink_spec k P' x (y :: Z) hl
      refine ⟨P2 ++ [y], by rw [k1]; simp, by simp [k2], ?_, fun hp hx => ?_⟩
      · refine (List.Perm.append_right _ k3).trans ?_
        exact List.Perm.refl _
      · rw [List.pairwise_append] at hp ⊢
        refine ⟨k4 hp.1 (fun h => hx (List.mem_append_left _ h)), List.pairwise_singleton .., fun a ha b hb => ?_⟩
        have hb : b = y := by simpa using hb
        subst hb
        rcases List.mem_cons.1 (k3.mem_iff.1 ha) with rfl | h
        · exact hxy
        · exact hp.2.2 a h b (by simp)
    · rw [if_neg hxy]
      refine ⟨P' ++ [y, x], by simp, by simp [hl], ?_, fun hp hx => ?_⟩
      · have : P' ++ [y, x] = (P' ++ [y]) ++ [x] := by simp
        rw [this]
        exact List.perm_append_comm
      · have hyx : y < x := by
          have : x ≠ y := fun h => hx (by rw [h]; simp)
          omega
        rw [List.pairwise_append] at hp ⊢
        refine ⟨hp.1, by simp [hyx], fun a ha b hb => ?_⟩
        have hay := hp.2.2 a ha y (by simp)
        rcases List.mem_cons.1 hb with rfl | hb
        · exact hay
        · have : b = x := by simpa using hb
          subst this; omega
theorem Tb.insTo_spec {t : Tb} (R : t.R) : ∀ i, i ≤ 6 → ∃ P, t.insTo i = P ++ List.replicate ((t.usedTo 6).length - (t.usedTo i).length) 0 ∧ P.length = (t.usedTo i).length ∧ P.Perm (t.usedTo i) ∧ P.Pairwise (· < ·)
  | 0, _ => ⟨[], by simp [Tb.insTo, Tb.usedTo], rfl, List.Perm.refl _, List.Pairwise.nil⟩
  | i + 1, hi => by
    obtain ⟨P, k1, k2, k3, k4⟩ := Tb.insTo_spec R i (by omega)
    unfold Tb.insTo
    by_cases hu : (t.rows i).used = true
    · rw [if_pos hu]
      have hy := Tb.usedTo_yes hu
      have hm := t.usedTo_mono hi
      have hlen : (t.usedTo (i + 1)).length = (t.usedTo i).length + 1 := by rw [hy]; simp
      obtain ⟨d, hd⟩ : ∃ d, (t.usedTo 6).length - (t.usedTo i).length = d + 1 := ⟨(t.usedTo 6).length - (t.usedTo i).length - 1, by omega⟩
      have hd2 : (t.usedTo 6).length - (t.usedTo (i + 1)).length = d := by omega
      have e1 : (t.insTo i).set (t.usedTo i).length (t.rows i).e.sd = P ++ (t.rows i).e.sd :: List.replicate d 0 := by
        rw [k1, hd, List.set_append_right _ _ (by omega), k2, Nat.sub_self]; rfl
      rw [e1]
      obtain ⟨P2, p1, p2, p3, p4⟩ := sink_spec (t.usedTo i).length P (t.rows i).e.sd (List.replicate d 0) k2
      refine ⟨P2, by rw [p1, hd2], by omega, ?_, p4 k4 ?_⟩
      · rw [hy]
        refine p3.trans ((List.Perm.cons _ k3).trans ?_)
        exact (List.perm_append_comm (l₁ := [(t.rows i).e.sd]))
      · intro hm
        have hm := k3.mem_iff.1 hm
        simp only [Tb.usedTo, List.mem_map, List.mem_filter, List.mem_range] at hm
        obtain ⟨j, ⟨j1, j2⟩, j3⟩ := hm
        have := R.sdD j i _ _ (by omega) (by omega) (Tb.es_some.2 ⟨j2, rfl⟩) (Tb.es_some.2 ⟨hu, rfl⟩) j3
        omega
    · rw [if_neg hu]
      have hu' : (t.rows i).used = false := by simpa using hu
      rw [Tb.usedTo_no hu']
      exact ⟨P, k1, k2, k3, k4⟩
theorem Tb.R.list {t : Tb} (R : t.R) : t.list.Pairwise (· < ·) ∧ t.list.Perm (t.usedTo 6) ∧ ∀ sd, sd ∈ t.list ↔ ∃ e, t.at sd = some e := by
  obtain ⟨P, k1, k2, k3, k4⟩ := Tb.insTo_spec R 6 (Nat.le_refl _)
  have e : t.list = P := by unfold Tb.list; rw [k1]; simp
  rw [e]
  refine ⟨k4, k3, fun sd => ?_⟩
  rw [k3.mem_iff]
  simp only [Tb.usedTo, List.mem_map, List.mem_filter, List.mem_range]
  constructor
  · rintro ⟨j, ⟨j1, j2⟩, j3⟩
    exact ⟨_, R.at_iff.2 ⟨j3, j, j1, Tb.es_some.2 ⟨j2, rfl⟩⟩⟩
  · rintro ⟨e, he⟩
    obtain ⟨h1, j, j1, j2⟩ := R.at_iff.1 he
    obtain ⟨j3, j4⟩ := Tb.es_some.1 j2
    exact ⟨j, ⟨j1, j3⟩, by rw [j4]; exact h1⟩
/-- counting along the list is counting the rows -/
theorem Tb.R.count {t : Tb} (R : t.R) (k : Int) (p : Int → Bool) (hp : ∀ sd e, t.at sd = some e → p sd = decide (e.kind = k)) : ((t.list.countP p : Nat) : Int) = cnt6 (fun i => isK k (t.es i)) := by
  rw [R.list.2.1.countP_eq]
  have h : ∀ j, j < 6 → ((if (t.rows j).used = true ∧ p (t.rows j).e.sd = true then 1 else 0 : Nat) : Int) = b2 (isK k (t.es j)) := fun j hj => by
    by_cases hu : (t.rows j).used = true
    · have he : t.es j = some (t.rows j).e := Tb.es_some.2 ⟨hu, rfl⟩
      rw [he, hp _ _ (R.at_of hj he).1]
      simp only [isK, b2, hu, true_and, decide_eq_true_eq]
      split <;> rfl
    · have he : t.es j = none := Tb.es_none.2 (by simpa using hu)
      rw [he, if_neg (fun h => hu h.1)]; rfl
  unfold cnt6
  rw [← h 0 (by omega), ← h 1 (by omega), ← h 2 (by omega), ← h 3 (by omega), ← h 4 (by omega), ← h 5 (by omega)]
  unfold Tb.usedTo
  rw [List.countP_map, List.countP_filter]
  have e : List.range 6 = [0, 1, 2, 3, 4, 5] := rfl
  rw [e]
  simp only [List.countP_cons, List.countP_nil, Function.comp, Bool.and_eq_true]
  simp only [and_comm]
  omega
end Go.Proofs.Qxb6500351aGreat
