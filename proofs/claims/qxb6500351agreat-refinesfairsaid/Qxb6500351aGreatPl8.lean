/- THE PLAIN LAW of the table, part 8: rows go. No Go in sight. -/
import Derived.Test.Qxb6500351aGreatPl7
set_option linter.unusedVariables false
set_option linter.unusedSimpArgs false
namespace Go.Proofs.Qxb6500351aGreat
open Go.Eng
/-- what unlink keeps and does -/
structure Tb.Unl (t u : Tb) (i h : Nat) (l : List Nat) : Prop where
  rest : u.free = t.free ∧ u.port = t.port ∧ u.blocks = t.blocks ∧ u.listeners = t.listeners ∧ u.nextSd = t.nextSd ∧ u.eph = t.eph
  row : ∀ j, (u.rows j).used = (t.rows j).used ∧ (u.rows j).e = (t.rows j).e ∧ (u.rows j).kids = (t.rows j).kids ∧ (u.rows j).ring = (t.rows j).ring ∧ (u.rows j).head = (t.rows j).head ∧ (u.rows j).n = (t.rows j).n
  nx : ∀ j, j ∉ l ∨ j = i → u.nx j = t.nx j
  buck : ∀ h', h' ≠ h → u.bucket h' = t.bucket h'
  chn : Chn u.nx (u.bucket h) (l.erase i)
theorem Tb.unlink_spec {t : Tb} {i h : Nat} {l : List Nat} (hh : t.hash (i : Int) = h) (hc : Chn t.nx (t.bucket h) l) (hn : l.Nodup) (hm : i ∈ l) (hb : l.length ≤ 6) : t.Unl (t.unlink (i : Int)) i h l := by
  unfold Tb.unlink
  rw [hh]
  match l, hc, hn, hm, hb with
  | a :: l, hc, hn, hm, hb =>
    obtain ⟨c1, c2⟩ := hc
    by_cases ha : a = i
    · subst ha
      rw [if_pos c1]
      refine ⟨⟨rfl, rfl, rfl, rfl, rfl, rfl⟩, fun j => ⟨rfl, rfl, rfl, rfl, rfl, rfl⟩, fun j _ => rfl, fun h' hne => upA_ne _ _ hne, ?_⟩
      dsimp only
      rw [upA_at, List.erase_cons_head]
      exact c2
    · rw [if_neg (by rw [c1]; omega)]
      have hil : i ∈ l := (List.mem_cons.1 hm).resolve_left (fun e => ha e.symm)
      obtain ⟨p, k1, k2, k3, k4⟩ := Tb.unl_spec t i l 5 a (t.bucket h) ⟨c1, c2⟩ hn hil (by simp only [List.length_cons] at hb; omega)
      rw [k3]
      have hnx : ∀ j, Tb.nx { t with rows := upA t.rows p { (t.rows p) with nxt_ := t.nx i } } j = upA t.nx p (t.nx i) j := fun j => by
        unfold Tb.nx; dsimp only; unfold upA; split <;> rfl
      refine ⟨⟨rfl, rfl, rfl, rfl, rfl, rfl⟩, fun j => ?_, fun j hj => ?_, fun h' hne => rfl, ?_⟩
      · dsimp only
        by_cases hj : j = p
        · subst hj; rw [upA_at]; exact ⟨rfl, rfl, rfl, rfl, rfl, rfl⟩
        · rw [upA_ne _ _ hj]; exact ⟨rfl, rfl, rfl, rfl, rfl, rfl⟩
      · rw [hnx]
        refine upA_ne _ _ fun e => ?_
        subst e
        rcases hj with hj | hj
        · exact hj k1
        · exact k2 hj
      · exact Chn.congr (fun j _ => (hnx j).symm) k4
theorem clr_bits {b : Int} (hb : 0 ≤ b ∧ b < 256) {s : Int} (hs : 0 ≤ s ∧ s < 4) (k : Nat) (hk : k < 4) : (clrBlk b s).toNat.testBit k = (b.toNat.testBit k && !decide (s.toNat = k)) := by
  have e : (clrBlk b s).toNat = b.toNat &&& (255 - 2 ^ s.toNat) := by unfold clrBlk; exact Int.toNat_natCast _
  rw [e, Nat.testBit_and]
  have q1 : s.toNat = 0 ∨ s.toNat = 1 ∨ s.toNat = 2 ∨ s.toNat = 3 := by omega
  have q2 : k = 0 ∨ k = 1 ∨ k = 2 ∨ k = 3 := by omega
  rcases q1 with h | h | h | h <;> rw [h] <;> rcases q2 with rfl | rfl | rfl | rfl <;> rfl
/-- a connection's row goes -/
theorem Tb.Good.freeC {t : Tb} {q : Int → List Int} (g : t.Good q) (hbl : 0 ≤ t.blocks ∧ t.blocks < 256) {sd : Int} {e : En} (he : t.at sd = some e) (hk : e.kind ≠ 1) :
    ∃ u, t.freeSd sd = (0, u) ∧ u.Good (updQ q e.parent ((q e.parent).erase sd)) ∧ u.nextSd = t.nextSd ∧ u.eph = t.eph ∧ ∀ x, u.at x = if x = sd then none else t.at x := by
  obtain ⟨i, i1, i2, i3, i4⟩ := Tb.at_row he
  have hke := g.kindC i1 i3 hk
  have hie : (t.rows i).e = e := (Tb.es_some.1 i3).2
  have hiu : (t.rows i).used = true := (Tb.es_some.1 i3).1
  obtain ⟨fl, F⟩ := g.f
  obtain ⟨bl, B⟩ := g.b
  have hh4 : e.hsh < 4 := hashF_lt _ _ _
  have hhash : t.hash (i : Int) = e.hsh := by unfold Tb.hash; rw [Int.toNat_natCast, hie]; rfl
  have him : i ∈ bl e.hsh := (B.m _ hh4 i).2 ⟨i1, e, i3, hke.kind, rfl⟩
  have U := Tb.unlink_spec hhash (B.c _ hh4) (B.n _ hh4) him (len_bnd' 6 _ (B.n _ hh4) (fun j hj => ((B.m _ hh4 j).1 hj).1))
  have e0 : t.freeSd sd = (0, (t.freeC (i : Int)).give (i : Int)) := by
    unfold Tb.freeSd Tb.freeT
    rw [i2, if_neg (by omega), Int.toNat_natCast, hie, if_neg hk]
  refine ⟨_, e0, ?_⟩
  unfold Tb.freeC
  generalize ht1 : t.unlink (i : Int) = t1 at *
  rw [Int.toNat_natCast, (U.row i).2.1, hie]
  generalize ht2 : ({ t1 with blocks := clrBlk t1.blocks e.slot } : Tb) = t2
  have r2 : t2.rows = t1.rows := by rw [← ht2]
  -- orphan
  have O : ∀ t3, t3 = t2.orphan (i : Int) → (t3.free = t2.free ∧ t3.port = t2.port ∧ t3.blocks = t2.blocks ∧ t3.listeners = t2.listeners ∧ t3.nextSd = t2.nextSd ∧ t3.eph = t2.eph ∧ t3.bucket = t2.bucket) ∧
      (∀ j, (t3.rows j).used = (t2.rows j).used ∧ (t3.rows j).e = (t2.rows j).e ∧ (t3.rows j).nxt_ = (t2.rows j).nxt_) ∧
      (∀ l f, l < 6 → t.es l = some f → f.kind = 1 → (t3.rows l).kids = (t.rows l).kids - b2 (decide (e.parent = f.sd)) ∧ (t3.rows l).Q (updQ q e.parent ((q e.parent).erase sd) f.sd)) := by
    intro t3 ht3
    have er : (t2.rows ((i : Int).toNat)).e = e := by rw [r2, Int.toNat_natCast, (U.row i).2.1, hie]
    have old : ∀ l f, l < 6 → t.es l = some f → f.kind = 1 → (t2.rows l).Q (q f.sd) := fun l f hl hf hfk => by
      have := g.q.rw l f hl hf hfk
      obtain ⟨_, _, _, a, b, c⟩ := U.row l
      rw [r2]
      exact ⟨by rw [c]; exact this.n, this.len, by rw [b]; exact this.head, by rw [a, b]; exact this.at0, by rw [a, b]; exact this.at1⟩
    by_cases hp : e.parent = 0
    · have : t3 = t2 := by rw [ht3]; unfold Tb.orphan; rw [er, if_pos hp]
      subst this
      refine ⟨⟨rfl, rfl, rfl, rfl, rfl, rfl, rfl⟩, fun j => ⟨rfl, rfl, rfl⟩, fun l f hl hf hfk => ?_⟩
      have hsd := (g.r.sd l f hl hf).1
      have h0 : ¬ e.parent = f.sd := by omega
      rw [updQ_ne _ _ (fun h => h0 h.symm)]
      refine ⟨?_, old l f hl hf hfk⟩
      have e1 : b2 (decide (e.parent = f.sd)) = 0 := by simp [b2, h0]
      rw [e1, r2, (U.row l).2.2.1]; omega
    · obtain ⟨l, f, l1, l2, l3, l4, l5⟩ := g.r.par i e i1 i3 hp
      have hlr : t2.lrow e.lPort = (l : Int) := by
        have e1 : t2.lrow e.lPort = t.lrow e.lPort := by unfold Tb.lrow; rw [show t2.port = t.port by rw [← ht2]; exact U.rest.2.1]
        rw [e1]
        rcases g.r.lrow e.lPort with ⟨_, k⟩ | ⟨m, f', m1, m2, m3, m4, m5⟩
        · exact absurd l5 (k l f l1 l2 l3)
        · have : m = l := by
            have a := g.r.portA m f' m1 m3 m4
            have b := g.r.portA l f l1 l2 l3
            rw [m5, ← l5, b] at a; omega
          rw [m2, this]
      have hke' : (t2.rows l).e = f := by rw [r2, (U.row l).2.1]; exact (Tb.es_some.1 l2).2
      have only : ∀ m f', m < 6 → t.es m = some f' → (e.parent = f'.sd ↔ m = l) := fun m f' hm hf' =>
        ⟨fun h => g.r.sdD m l f' f hm l1 hf' l2 (h.symm.trans l4.symm), fun h => by subst h; rw [l2] at hf'; cases hf'; exact l4.symm⟩
      unfold Tb.orphan at ht3
      rw [er, if_neg hp, hlr, if_neg (by omega), Int.toNat_natCast] at ht3
      by_cases hr : e.ready = true
      · rw [if_pos hr] at ht3
        have hrow : ∀ j, t3.rows j = if j = l then Rw.leave { (t2.rows l) with kids := (t2.rows l).kids - 1 } e.sd else t2.rows j := fun j => by
          rw [ht3]; unfold Tb.leave; dsimp only
          rw [Int.toNat_natCast, upA_at, upA_upA]
          by_cases hj : j = l
          · subst hj; rw [if_pos rfl, upA_at]
          · rw [if_neg hj, upA_ne _ _ hj]
        have hlv : ∀ r : Rw, (r.leave e.sd).used = r.used ∧ (r.leave e.sd).e = r.e ∧ (r.leave e.sd).nxt_ = r.nxt_ ∧ (r.leave e.sd).kids = r.kids := fun r => by
          unfold Rw.leave; repeat' split
          all_goals exact ⟨rfl, rfl, rfl, rfl⟩
        refine ⟨by rw [ht3]; exact ⟨rfl, rfl, rfl, rfl, rfl, rfl, rfl⟩, fun j => ?_, fun m f' hm hf' hfk' => ?_⟩
        · rw [hrow]; split
          · rename_i h; subst h
            obtain ⟨a, b, c, _⟩ := hlv { (t2.rows j) with kids := (t2.rows j).kids - 1 }
            exact ⟨a, b, c⟩
          · exact ⟨rfl, rfl, rfl⟩
        · rw [hrow]
          by_cases hm2 : m = l
          · rw [if_pos hm2]
            subst hm2
            rw [l2] at hf'; cases hf'
            have e1 : b2 (decide (e.parent = f.sd)) = 1 := by simp [b2, l4]
            rw [e1, (hlv _).2.2.2, l4, updQ_at]
            have := old m f l1 l2 l3
            rw [l4] at this
            refine ⟨by dsimp only; rw [r2, (U.row m).2.2.1], ?_⟩
            rw [i4]
            exact Rw.Q.leave (r := { (t2.rows m) with kids := (t2.rows m).kids - 1 }) ⟨this.n, this.len, this.head, this.at0, this.at1⟩ (g.q.nd _) sd
          · rw [if_neg hm2]
            have h0 : ¬ e.parent = f'.sd := fun h => hm2 ((only m f' hm hf').1 h)
            have e1 : b2 (decide (e.parent = f'.sd)) = 0 := by simp [b2, h0]
            rw [e1, updQ_ne _ _ (fun h => h0 h.symm)]
            exact ⟨by rw [r2, (U.row m).2.2.1]; omega, old m f' hm hf' hfk'⟩
      · rw [if_neg hr] at ht3
        have hnm : sd ∉ q e.parent := fun hm => by
          obtain ⟨j, a, j1, j2, j3, j4, j5, j6⟩ := (g.q.m _ sd).1 hm
          have := g.r.sdD j i a e j1 i1 j2 i3 (by rw [j3, i4])
          subst this; rw [i3] at j2; cases j2; exact hr j6
        have hrow : ∀ j, t3.rows j = if j = l then { (t2.rows l) with kids := (t2.rows l).kids - 1 } else t2.rows j := fun j => by
          rw [ht3]; dsimp only
          by_cases hj : j = l
          · subst hj; rw [if_pos rfl, upA_at]
          · rw [if_neg hj, upA_ne _ _ hj]
        refine ⟨by rw [ht3]; exact ⟨rfl, rfl, rfl, rfl, rfl, rfl, rfl⟩, fun j => ?_, fun m f' hm hf' hfk' => ?_⟩
        · rw [hrow]; split
          · rename_i h; subst h; exact ⟨rfl, rfl, rfl⟩
          · exact ⟨rfl, rfl, rfl⟩
        · rw [hrow]
          by_cases hm2 : m = l
          · rw [if_pos hm2]
            subst hm2
            rw [l2] at hf'; cases hf'
            have e1 : b2 (decide (e.parent = f.sd)) = 1 := by simp [b2, l4]
            have := old m f l1 l2 l3
            rw [l4] at this
            rw [e1, l4, updQ_at, List.erase_of_not_mem hnm]
            exact ⟨by dsimp only; rw [r2, (U.row m).2.2.1], ⟨this.n, this.len, this.head, this.at0, this.at1⟩⟩
          · rw [if_neg hm2]
            have h0 : ¬ e.parent = f'.sd := fun h => hm2 ((only m f' hm hf').1 h)
            have e1 : b2 (decide (e.parent = f'.sd)) = 0 := by simp [b2, h0]
            rw [e1, updQ_ne _ _ (fun h => h0 h.symm)]
            exact ⟨by rw [r2, (U.row m).2.2.1]; omega, old m f' hm hf' hfk'⟩
  generalize ht3 : t2.orphan (i : Int) = t3
  obtain ⟨O1, O2, O3⟩ := O t3 ht3.symm
  generalize hu : t3.give (i : Int) = u
  have hrow : u.rows = upA t3.rows i { Rw.zero with nxt_ := t3.free } := by rw [← hu]; unfold Tb.give; dsimp only; rw [Int.toNat_natCast]
  have hes : ∀ j, u.es j = if j = i then none else t.es j := fun j => by
    rw [es_upA0 hrow rfl]
    by_cases hj : j = i
    · rw [if_pos hj, if_pos hj]
    · rw [if_neg hj, if_neg hj]
      unfold Tb.es
      rw [(O2 j).1, (O2 j).2.1, r2, (U.row j).1, (U.row j).2.1]
  have hnx : ∀ j, j ≠ i → u.nx j = t1.nx j := fun j hj => by
    rw [nx_upA hrow, if_neg hj]
    unfold Tb.nx; rw [(O2 j).2.2, r2]
  have c : u.port = t.port ∧ u.blocks = clrBlk t.blocks e.slot ∧ u.listeners = t.listeners ∧ u.nextSd = t.nextSd ∧ u.eph = t.eph ∧ u.bucket = t1.bucket ∧ u.free = (i : Int) ∧ t3.free = t.free := by
    obtain ⟨o1, o2, o3, o4, o5, o6, o7⟩ := O1
    obtain ⟨u1, u2, u3, u4, u5, u6⟩ := U.rest
    rw [← hu]
    unfold Tb.give; dsimp only
    rw [o1, o2, o3, o4, o5, o6, o7, ← ht2]
    dsimp only
    rw [u1, u2, u3, u4, u5, u6]
    exact ⟨rfl, rfl, rfl, rfl, rfl, rfl, rfl, rfl⟩
  have R : u.R := by
    refine g.r.del i1 i3 hes c.2.2.2.1 (fun h => absurd h hk) (fun _ => c.1) (fun _ s s4 => ?_) (fun h => absurd h hk) (fun h => absurd h hk) ?_
    · rw [c.2.1]; exact clr_bits hbl hke.slot s s4
    · rw [c.2.2.1]
      have : b2 (decide (e.kind = 1)) = 0 := by simp [b2, hk]
      omega
  have hifl : i ∉ fl := fun h => by have := (F.m i).1 h; rw [i3] at this; exact absurd this.2 (by simp)
  refine ⟨⟨R, ⟨i :: fl, ?_⟩, ⟨upA bl e.hsh ((bl e.hsh).erase i), ?_⟩, ?_⟩, c.2.2.2.1, c.2.2.2.2.1, ?_⟩
  · refine ⟨⟨c.2.2.2.2.2.2.1, ?_⟩, List.nodup_cons.2 ⟨hifl, F.n⟩, fun j => ?_⟩
    · rw [nx_upA hrow, if_pos rfl]
      show Chn u.nx t3.free fl
      rw [c.2.2.2.2.2.2.2]
      refine Chn.congr (fun j hj => ?_) F.c
      have hji : j ≠ i := fun h => by subst h; exact hifl hj
      rw [hnx j hji, U.nx j (.inl fun hm => ?_)]
      obtain ⟨_, a, k, _⟩ := (B.m _ hh4 j).1 hm
      have := (F.m j).1 hj
      rw [k] at this; exact absurd this.2 (by simp)
    · rw [hes, List.mem_cons]
      by_cases hj : j = i
      · subst hj; simp [i1]
      · rw [if_neg hj]; simp only [hj, false_or]; exact F.m j
  · have hb : u.bucket = t1.bucket := c.2.2.2.2.2.1
    refine ⟨fun h hh => ?_, fun h hh => ?_, fun h hh j => ?_⟩
    · rw [hb]
      by_cases hx : h = e.hsh
      · subst hx
        rw [upA_at]
        refine Chn.congr (fun j hj => (hnx j ?_).symm) U.chn
        intro hji; subst hji
        exact (B.n _ hh).not_mem_erase hj
      · rw [upA_ne _ _ hx, U.buck h hx]
        refine Chn.congr (fun j hj => ?_) (B.c h hh)
        have hji : j ≠ i := fun hji => by
          subst hji
          obtain ⟨_, a, k1, _, k2⟩ := (B.m h hh j).1 hj
          rw [i3] at k1; cases k1; exact hx k2.symm
        rw [hnx j hji, U.nx j (.inl fun hm => ?_)]
        obtain ⟨_, a, k1, _, k2⟩ := (B.m h hh j).1 hj
        obtain ⟨_, a', k1', _, k2'⟩ := (B.m _ hh4 j).1 hm
        rw [k1] at k1'; cases k1'; exact hx (k2.symm.trans k2')
    · by_cases hx : h = e.hsh
      · subst hx; rw [upA_at]; exact (B.n _ hh).erase _
      · rw [upA_ne _ _ hx]; exact B.n _ hh
    · rw [hes]
      by_cases hx : h = e.hsh
      · subst hx
        rw [upA_at, (B.n _ hh).mem_erase_iff, B.m _ hh j]
        by_cases hj : j = i
        · subst hj; simp
        · rw [if_neg hj]; simp [hj]
      · rw [upA_ne _ _ hx, B.m _ hh j]
        by_cases hj : j = i
        · subst hj; rw [if_pos rfl]
          constructor
          · rintro ⟨_, a, k1, _, k2⟩
            rw [i3] at k1; cases k1; exact absurd k2.symm hx
          · rintro ⟨_, a, k1, _⟩; cases k1
        · rw [if_neg hj]
  · have hrowne : ∀ l, l ≠ i → u.rows l = t3.rows l := fun l hl => by rw [hrow, upA_ne _ _ hl]
    refine ⟨?_, ?_, ?_, ?_⟩
    · intro l f hl hf hfk
      rw [hes] at hf
      split at hf
      · cases hf
      · rename_i hli
        rw [hrowne l hli]; exact (O3 l f hl hf hfk).2
    · intro x
      by_cases h : x = e.parent
      · subst h; rw [updQ_at]; exact (g.q.nd _).erase _
      · rw [updQ_ne _ _ h]; exact g.q.nd _
    · intro x y
      have old := g.q.m x y
      have key : (∃ j a, j < 6 ∧ u.es j = some a ∧ a.sd = y ∧ a.kind = 2 ∧ a.parent = x ∧ a.ready = true) ↔ (y ≠ sd ∧ y ∈ q x) := by
        rw [old]
        constructor
        · rintro ⟨j, a, j1, j2, j3⟩
          rw [hes] at j2
          split at j2
          · cases j2
          · rename_i hji
            refine ⟨fun h => hji ?_, j, a, j1, j2, j3⟩
            exact g.r.sdD j i a e j1 i1 j2 i3 (by rw [j3.1, h, i4])
        · rintro ⟨h, j, a, j1, j2, j3⟩
          refine ⟨j, a, j1, ?_, j3⟩
          rw [hes, if_neg]; exact j2
          intro hh; subst hh; rw [i3] at j2; cases j2; exact h (j3.1.symm.trans i4)
      rw [key]
      by_cases h : x = e.parent
      · subst h; rw [updQ_at, (g.q.nd _).mem_erase_iff]
      · rw [updQ_ne _ _ h]
        refine ⟨fun hy => ⟨fun hs => ?_, hy⟩, fun hy => hy.2⟩
        subst hs
        obtain ⟨j, a, j1, j2, j3⟩ := old.1 hy
        have := g.r.sdD j i a e j1 i1 j2 i3 (by rw [j3.1, i4])
        subst this; rw [i3] at j2; cases j2; exact h j3.2.2.1.symm
    · intro l f hl hf hfk
      have hul := hf
      rw [hes] at hf
      split at hf
      · cases hf
      · rename_i hli
        rw [hrowne l hli, (O3 l f hl hf hfk).1]
        obtain ⟨k1, k2⟩ := g.q.kids l f hl hf hfk
        have := cnt6_one (P := fun j => isKid f.sd (t.es j)) (Q := fun j => isKid f.sd (u.es j)) i i1 (fun j _ hj => by rw [hes, if_neg hj])
        rw [i3, show u.es i = none by rw [hes, if_pos rfl]] at this
        have e1 : b2 (isKid f.sd (none : Option En)) = 0 := rfl
        have e2 : b2 (isKid f.sd (some e)) = b2 (decide (e.parent = f.sd)) := rfl
        have e3 := b2_b (decide (e.parent = f.sd))
        rw [e1, e2] at this
        omega
  · intro x
    have := g.r.at_del R i1 i3 hes x
    rw [this, i4]
end Go.Proofs.Qxb6500351aGreat
