/- THE PLAIN LAW of the table, part 5: connections come. No Go in sight. -/
import Derived.Test.Qxb6500351aGreatPl4
set_option linter.unusedVariables false
set_option linter.unusedSimpArgs false
namespace Go.Proofs.Qxb6500351aGreat
open Go.Eng
def conEn (sd lp rh rp slot parent : Int) : En := { sd := sd, kind := 2, lPort := lp, rHost := rh, rPort := rp, slot := slot, parent := parent, ready := false }
theorem con_ne1 {sd lp rh rp slot parent : Int} (h : (conEn sd lp rh rp slot parent).kind = 1) : False := by have h : (2 : Int) = 1 := h; omega
def Tb.conT (t : Tb) (lp rh rp slot parent : Int) : Tb :=
  { t with free := t.nx t.free.toNat, nextSd := t.nextSd + 1, rows := upA t.rows t.free.toNat (newRw (conEn t.nextSd lp rh rp slot parent) (t.bucket (hashF lp rh rp))), blocks := ((t.blocks.toNat ||| 2 ^ slot.toNat : Nat) : Int), bucket := upA t.bucket (hashF lp rh rp) t.free }
theorem Tb.conn_eq {t : Tb} (hf : ¬ t.free = -1) (lp rh rp slot parent : Int) : t.conn lp rh rp slot parent = (t.nextSd, t.conT lp rh rp slot parent) := by
  simp only [Tb.conn, Tb.conT, Tb.link, Tb.connT, Tb.hash, Tb.takeT, if_neg hf, upA_at, upA_upA, Tb.nx, conEn, newRw, Rw.zero]
structure Tb.New (t : Tb) (lp rh rp slot parent : Int) : Prop where
  free : ¬ t.free = -1
  hlp : 1 ≤ lp ∧ lp ≤ 15
  hrh : 1 ≤ rh ∧ rh ≤ 255
  hrp : 1 ≤ rp ∧ rp ≤ 15
  hsl : 0 ≤ slot ∧ slot < 4
  bit : t.blocks.toNat.testBit slot.toNat = false
  tup : ∀ sd e, t.at sd = some e → e.kind = 2 → ¬ e.tup lp rh rp
  par : parent ≠ 0 → ∃ (l : Nat) (f : En), l < 6 ∧ t.es l = some f ∧ f.kind = 1 ∧ f.sd = parent ∧ f.lPort = lp
theorem Tb.Good.conT {t : Tb} {q : Int → List Int} (g : t.Good q) {lp rh rp slot parent : Int} (n : t.New lp rh rp slot parent) :
    (t.conT lp rh rp slot parent).R ∧ (∃ fl, (t.conT lp rh rp slot parent).F fl) ∧ (∃ bl, (t.conT lp rh rp slot parent).B bl) ∧ (∃ i, i < 6 ∧ t.es i = none ∧ (t.conT lp rh rp slot parent).rows = upA t.rows i (newRw (conEn t.nextSd lp rh rp slot parent) (t.bucket (hashF lp rh rp))) ∧ ∀ j, (t.conT lp rh rp slot parent).es j = if j = i then some (conEn t.nextSd lp rh rp slot parent) else t.es j) ∧
    ∀ sd, (t.conT lp rh rp slot parent).at sd = if sd = t.nextSd then some (conEn t.nextSd lp rh rp slot parent) else t.at sd := by
  obtain ⟨fl, F⟩ := g.f
  obtain ⟨bl, B⟩ := g.b
  obtain ⟨fl', f1, f2, f3, f4, f5⟩ := F.head n.free
  have hbk := (t.conT lp rh rp slot parent).blocks
  generalize hu : t.conT lp rh rp slot parent = u
  unfold Tb.conT at hu
  generalize hi : t.free.toNat = i at *
  have hr : u.rows = upA t.rows i (newRw (conEn t.nextSd lp rh rp slot parent) (t.bucket (hashF lp rh rp))) := by rw [← hu]
  have hes : ∀ j, u.es j = if j = i then some (conEn t.nextSd lp rh rp slot parent) else t.es j := es_upA hr rfl rfl
  have R : u.R := by
    refine g.r.ins f4 f5 hes rfl (by rw [← hu]) (.inr ⟨rfl, n.hlp, n.hrh, n.hrp, n.hsl, fun h => absurd (show false = true from h) (by decide)⟩) (fun h => (con_ne1 h).elim) (fun _ => by rw [← hu]) ?_ ?_ (fun h => (con_ne1 h).elim) n.par ?_ (fun h => (con_ne1 h).elim)
    · intro j f hj hjf hk _ ht
      exact n.tup f.sd f (g.r.at_of hj hjf).1 hk ht
    · intro _
      refine ⟨n.bit, ?_⟩
      rw [← hu]; exact Int.toNat_natCast _
    · rw [← hu]
      show t.listeners = t.listeners + b2 (decide ((2 : Int) = 1))
      have : b2 (decide ((2 : Int) = 1)) = 0 := rfl
      omega
  refine ⟨R, ⟨fl', ?_⟩, ⟨upA bl (hashF lp rh rp) (i :: bl (hashF lp rh rp)), ?_⟩, ⟨i, f4, f5, hr, hes⟩, g.r.at_set R f4 hes (fun f hff => by rw [f5] at hff; cases hff)⟩
  · subst f1
    exact F.tl hr rfl rfl (by rw [← hu])
  · have hnm : ∀ h, h < 4 → i ∉ bl h := fun h hh hm => by
      obtain ⟨_, e, k, _⟩ := (B.m h hh i).1 hm
      rw [f5] at k; cases k
    have hc : ∀ h, h < 4 → ∀ j, Chn t.nx j (bl h) → Chn u.nx j (bl h) := fun h hh j hc =>
      Chn.congr (fun j hj => by
        rw [nx_upA hr, if_neg]
        intro hji; subst hji; exact hnm h hh hj) hc
    have hb : u.bucket = upA t.bucket (hashF lp rh rp) t.free := by rw [← hu]
    refine ⟨fun h hh => ?_, fun h hh => ?_, fun h hh j => ?_⟩
    · rw [hb]
      by_cases hx : h = hashF lp rh rp
      · subst hx
        rw [upA_at, upA_at]
        refine ⟨f2, ?_⟩
        rw [nx_upA hr, if_pos rfl]
        exact hc _ hh _ (B.c _ hh)
      · rw [upA_ne _ _ hx, upA_ne _ _ hx]
        exact hc _ hh _ (B.c _ hh)
    · by_cases hx : h = hashF lp rh rp
      · subst hx
        rw [upA_at]
        exact List.nodup_cons.2 ⟨hnm _ hh, B.n _ hh⟩
      · rw [upA_ne _ _ hx]; exact B.n _ hh
    · have hold : ∀ (a : j ≠ i), u.es j = t.es j := fun a => by rw [hes, if_neg a]
      by_cases hj : j = i
      · subst hj
        rw [hes, if_pos rfl]
        by_cases hx : h = hashF lp rh rp
        · subst hx
          rw [upA_at]
          exact ⟨fun _ => ⟨f4, _, rfl, rfl, rfl⟩, fun _ => List.mem_cons_self ..⟩
        · rw [upA_ne _ _ hx]
          refine ⟨fun h1 => absurd h1 (hnm h hh), ?_⟩
          rintro ⟨_, e, k1, k2, k3⟩
          cases k1
          exact absurd k3.symm hx
      · rw [hold hj, ← B.m h hh j]
        by_cases hx : h = hashF lp rh rp
        · subst hx
          rw [upA_at]
          simp [hj]
        · rw [upA_ne _ _ hx]
/-- the queues behind a new connection -/
theorem Tb.Q.conn {t u : Tb} {q : Int → List Int} (g : t.Good q) {i : Nat} {e : En} (hi : i < 6) (h0 : t.es i = none) (hes : ∀ j, u.es j = if j = i then some e else t.es j) (hk : e.kind = 2) (hr : e.ready = false)
    (hq : ∀ l, l ≠ i → (u.rows l).ring = (t.rows l).ring ∧ (u.rows l).head = (t.rows l).head ∧ (u.rows l).n = (t.rows l).n)
    (hkids : ∀ l f, l < 6 → l ≠ i → t.es l = some f → f.kind = 1 → (u.rows l).kids = (t.rows l).kids + b2 (decide (e.parent = f.sd)) ∧ (u.rows l).kids ≤ 2) : u.Q q := by
  refine ⟨?_, g.q.nd, ?_, ?_⟩
  · intro l f hl hf hfk
    rw [hes] at hf
    split at hf
    · cases hf; omega
    · rename_i hli
      have := g.q.rw l f hl hf hfk
      obtain ⟨a, b, c⟩ := hq l hli
      exact ⟨by rw [c]; exact this.n, this.len, by rw [b]; exact this.head, by rw [a, b]; exact this.at0, by rw [a, b]; exact this.at1⟩
  · intro lsd sd
    rw [g.q.m lsd sd]
    constructor
    · rintro ⟨j, f, a, b, c⟩
      refine ⟨j, f, a, ?_, c⟩
      rw [hes, if_neg]; exact b
      intro hji; subst hji; rw [h0] at b; cases b
    · rintro ⟨j, f, a, b, c⟩
      rw [hes] at b
      split at b
      · cases b; rw [hr] at c; exact absurd c.2.2.2 (by decide)
      · exact ⟨j, f, a, b, c⟩
  · intro l f hl hf hfk
    rw [hes] at hf
    split at hf
    · cases hf; omega
    · rename_i hli
      obtain ⟨k1, k2⟩ := hkids l f hl hli hf hfk
      refine ⟨?_, k2⟩
      have := (g.q.kids l f hl hf hfk).1
      have h2 := cnt6_one (P := fun j => isKid f.sd (t.es j)) (Q := fun j => isKid f.sd (u.es j)) i hi (fun j hj hji => by rw [hes, if_neg hji])
      rw [h0, show u.es i = some e by rw [hes, if_pos rfl]] at h2
      have e1 : b2 (isKid f.sd (none : Option En)) = 0 := rfl
      have e2 : b2 (isKid f.sd (some e)) = b2 (decide (e.parent = f.sd)) := rfl
      rw [e1, e2] at h2
      omega
/-! ### Connect -/
theorem nextEph_n {p : Int} (h : 8 ≤ p ∧ p ≤ 15) : nextEph p = 8 + (p - 8 + 1) % 8 := by unfold nextEph; split <;> omega
theorem Tb.eph8_spec (t : Tb) (rh rp : Int) : ∀ (f : Nat) (p : Int), (8 ≤ p ∧ p ≤ 15) → (8 ≤ t.eph8 rh rp f p ∧ t.eph8 rh rp f p ≤ 15) ∧ (t.lookup (t.eph8 rh rp f p) rh rp = 0 ∨ ∀ k : Nat, k < f → t.lookup (8 + (p - 8 + k) % 8) rh rp ≠ 0)
  | 0, p, h => ⟨h, .inr fun k hk => by omega⟩
  | f + 1, p, h => by
    unfold Tb.eph8
    by_cases h0 : t.lookup p rh rp = 0
    · rw [if_pos h0]; exact ⟨h, .inl h0⟩
    · rw [if_neg h0]
      obtain ⟨k1, k2⟩ := Tb.eph8_spec t rh rp f (nextEph p) (nextEph_b h)
      refine ⟨k1, ?_⟩
      rcases k2 with k2 | k2
      · exact .inl k2
      · refine .inr fun k hk => ?_
        by_cases hk0 : k = 0
        · subst hk0
          have : 8 + (p - 8 + ((0 : Nat) : Int)) % 8 = p := by omega
          rw [this]; exact h0
        · have := k2 (k - 1) (by omega)
          rw [nextEph_n h] at this
          have e : 8 + (8 + (p - 8 + 1) % 8 - 8 + ((k - 1 : Nat) : Int)) % 8 = 8 + (p - 8 + (k : Int)) % 8 := by omega
          rw [e] at this; exact this
/-- the ports of the connections towards (rh, rp), as bits: at most four of the eight are taken -/
theorem Tb.Good.eph {t : Tb} {q : Int → List Int} (g : t.Good q) (rh rp : Int) (h : 8 ≤ t.eph ∧ t.eph ≤ 15) : t.lookup (t.connP rh rp) rh rp = 0 ∧ 8 ≤ t.connP rh rp ∧ t.connP rh rp ≤ 15 := by
  obtain ⟨h1, h2⟩ := Tb.eph8_spec t rh rp 8 t.eph h
  refine ⟨?_, h1⟩
  rcases h2 with h2 | h2
  · exact h2
  · exfalso
    have hall : ∀ p : Int, 8 ≤ p → p ≤ 15 → ∃ i : Nat, i < 6 ∧ ∃ e, t.es i = some e ∧ e.lPort = p ∧ e.kind = 2 := fun p p1 p2 => by
      have := h2 ((p - t.eph) % 8).toNat (by omega)
      have e : 8 + (t.eph - 8 + (((p - t.eph) % 8).toNat : Int)) % 8 = p := by omega
      rw [e] at this
      rcases g.lookup p rh rp with ⟨k, _⟩ | ⟨f, k1, k2, k3, k4, _⟩
      · exact absurd k this
      · obtain ⟨i, q1, q2, q3, q4⟩ := Tb.at_row k1
        exact ⟨i, q1, f, q3, k3.1, k2⟩
    have hP : ∀ p : Nat, ∃ i : Nat, p < 8 → i < 6 ∧ ∃ e, t.es i = some e ∧ e.lPort = 8 + (p : Int) ∧ e.kind = 2 := fun p => by
      by_cases hp : p < 8
      · obtain ⟨i, a, b⟩ := hall (8 + (p : Int)) (by omega) (by omega)
        exact ⟨i, fun _ => ⟨a, b⟩⟩
      · exact ⟨0, fun h => absurd h hp⟩
    obtain ⟨f, hf⟩ := Classical.axiomOfChoice hP
    have hinj : ∀ a b, a < 8 → b < 8 → f a = f b → a = b := fun a b ha hb hab => by
      obtain ⟨_, e, k1, k2, _⟩ := hf a ha
      obtain ⟨_, e', k1', k2', _⟩ := hf b hb
      rw [hab, k1'] at k1; cases k1; omega
    have hnd : ((List.range 8).map f).Nodup := by
      have : List.Pairwise (· ≠ ·) ((List.range 8).map f) := by
        rw [List.pairwise_map]
        refine List.Pairwise.imp_of_mem ?_ (List.nodup_range (n := 8))
        intro a b ha hb hab hfab
        exact hab (hinj a b (List.mem_range.1 ha) (List.mem_range.1 hb) hfab)
      exact this
    have := len_bnd' 6 _ hnd (fun i hi => by
      obtain ⟨a, ha, rfl⟩ := List.mem_map.1 hi
      exact (hf a (List.mem_range.1 ha)).1)
    simp at this
/-- a call of Connect -/
theorem Tb.Good.connect {t : Tb} {q : Int → List Int} (g : t.Good q) (he : 8 ≤ t.eph ∧ t.eph ≤ 15) (rh rp : Int) :
    (t.connect rh rp = (0, 5, t) ∧ (rh < 1 ∨ 255 < rh)) ∨ (t.connect rh rp = (0, 22, t) ∧ (1 ≤ rh ∧ rh ≤ 255) ∧ (rp < 1 ∨ 15 < rp)) ∨
    (t.connect rh rp = (0, 11, t) ∧ (1 ≤ rh ∧ rh ≤ 255) ∧ (1 ≤ rp ∧ rp ≤ 15) ∧ cnt6 (fun i => isK 2 (t.es i)) = 4) ∨
    ∃ u lp slot, t.connect rh rp = (t.nextSd, 0, u) ∧ (1 ≤ rh ∧ rh ≤ 255) ∧ (1 ≤ rp ∧ rp ≤ 15) ∧ cnt6 (fun i => isK 2 (t.es i)) < 4 ∧ (8 ≤ lp ∧ lp ≤ 15) ∧ (0 ≤ slot ∧ slot < 4) ∧ u.Good q ∧ u.nextSd = t.nextSd + 1 ∧ (8 ≤ u.eph ∧ u.eph ≤ 15) ∧
      (∀ sd e, t.at sd = some e → e.kind = 2 → ¬ e.tup lp rh rp ∧ e.slot ≠ slot) ∧ ∀ sd, u.at sd = if sd = t.nextSd then some (conEn t.nextSd lp rh rp slot 0) else t.at sd := by
  by_cases h1 : rh < 1 ∨ 255 < rh
  · exact .inl ⟨by unfold Tb.connect; rw [if_pos h1], h1⟩
  by_cases h2 : rp < 1 ∨ 15 < rp
  · exact .inr (.inl ⟨by unfold Tb.connect; rw [if_neg h1, if_pos h2], by omega, h2⟩)
  by_cases h3 : t.low = -1
  · refine .inr (.inr (.inl ⟨by unfold Tb.connect; rw [if_neg h1, if_neg h2, if_pos h3], by omega, by omega, ?_⟩))
    rw [← g.r.con]; exact cnt4_all (Tb.low_no h3)
  · right; right; right
    obtain ⟨s, s1, s2, s3⟩ := Tb.low_yes h3
    obtain ⟨p1, p2⟩ := g.eph rh rp he
    have hf := g.has_free (.inr h3)
    have htup : ∀ sd e, t.at sd = some e → e.kind = 2 → ¬ e.tup (t.connP rh rp) rh rp := by
      rcases g.lookup (t.connP rh rp) rh rp with ⟨_, k⟩ | ⟨e, _, _, _, _, k⟩
      · exact k
      · omega
    have n : t.New (t.connP rh rp) rh rp t.low 0 := ⟨hf, by omega, by omega, by omega, by omega, by rw [s2]; exact s3, htup, fun h => absurd rfl h⟩
    have hc := Tb.conn_eq hf (t.connP rh rp) rh rp t.low 0
    obtain ⟨c1, c2, c3, ⟨i, i1, i2, i3, i4⟩, c5⟩ := g.conT n
    have same : (t.conT (t.connP rh rp) rh rp t.low 0).Same { t.conT (t.connP rh rp) rh rp t.low 0 with eph := nextEph (t.connP rh rp) } := ⟨fun _ => rfl, fun _ => rfl, rfl, rfl, rfl, rfl, rfl, rfl⟩
    have hQ : Tb.Q (t.conT (t.connP rh rp) rh rp t.low 0) q := by
      refine Tb.Q.conn g i1 i2 i4 rfl rfl (fun l hl => ?_) (fun l f hl hli hfl hfk => ?_)
      · rw [i3, upA_ne _ _ hl]; exact ⟨rfl, rfl, rfl⟩
      · rw [i3, upA_ne _ _ hli]
        have := g.r.sd l f hl hfl
        have h0 : b2 (decide ((conEn t.nextSd (t.connP rh rp) rh rp t.low 0).parent = f.sd)) = 0 := by
          have : ¬ (conEn t.nextSd (t.connP rh rp) rh rp t.low 0).parent = f.sd := by show ¬ (0 : Int) = f.sd; omega
          simp [b2, this]
        have := (g.q.kids l f hl hfl hfk).2
        rw [h0]; omega
    have hnx := g.r.next
    refine ⟨{ t.conT (t.connP rh rp) rh rp t.low 0 with eph := nextEph (t.connP rh rp) }, t.connP rh rp, t.low, ?_, by omega, by omega, ?_, p2, by omega, ?_, rfl, nextEph_b p2, ?_, ?_⟩
    · unfold Tb.connect
      rw [if_neg h1, if_neg h2, if_neg h3, hc, if_neg (by show ¬ t.nextSd = 0; omega)]
    · have := cnt4_lt (P := fun s => t.blocks.toNat.testBit s) s1 s3
      have := g.r.con; omega
    · refine ⟨c1.same same, ?_, ?_, ?_⟩
      · obtain ⟨fl, F⟩ := c2; exact ⟨fl, F.same same⟩
      · obtain ⟨bl, B⟩ := c3; exact ⟨bl, B.same same⟩
      · exact ⟨hQ.rw, hQ.nd, hQ.m, hQ.kids⟩
    · intro sd e hsd hk
      refine ⟨htup sd e hsd hk, fun hs => ?_⟩
      obtain ⟨j, j1, _, j3, _⟩ := Tb.at_row hsd
      have := (g.r.bits s s1).2 ⟨j, e, j1, j3, hk, by omega⟩
      rw [s3] at this; cases this
    · intro sd
      rw [c1.at_same same]; exact c5 sd
/-- a child is asked for -/
theorem Tb.Good.child {t : Tb} {q : Int → List Int} (g : t.Good q) {lp rh rp : Int} (hl : ¬ t.lis lp = 0) (h0 : t.lookup lp rh rp = 0) :
    ((t.child lp rh rp).1 = 0 ∧ (t.child lp rh rp).2.1 ≠ 0 ∧ (t.child lp rh rp).2.2 = t) ∨
    ∃ u slot f, t.child lp rh rp = (t.nextSd, 0, u) ∧ (1 ≤ lp ∧ lp < 8) ∧ (1 ≤ rh ∧ rh ≤ 255) ∧ (1 ≤ rp ∧ rp ≤ 15) ∧ (0 ≤ slot ∧ slot < 4) ∧ t.at f.sd = some f ∧ f.kind = 1 ∧ f.lPort = lp ∧ u.Good q ∧ u.nextSd = t.nextSd + 1 ∧ u.eph = t.eph ∧
      (∀ sd e, t.at sd = some e → e.kind = 2 → ¬ e.tup lp rh rp ∧ e.slot ≠ slot) ∧ ∀ sd, u.at sd = if sd = t.nextSd then some (conEn t.nextSd lp rh rp slot f.sd) else t.at sd := by
  have hl1 : ¬ t.lrow lp = -1 := fun h => hl (by unfold Tb.lis; rw [if_pos h])
  rcases g.r.lrow lp with ⟨k, _⟩ | ⟨l, f, l1, l2, l3, l4, l5⟩
  · exact absurd k hl1
  have lr : (t.lrow lp).toNat = l := by rw [l2]; simp
  unfold Tb.child
  rw [if_neg hl1]
  by_cases h1 : rh < 1 ∨ 255 < rh
  · rw [if_pos h1]; exact .inl ⟨rfl, (by decide : (5 : Int) ≠ 0), rfl⟩
  rw [if_neg h1]
  by_cases h2 : rp < 1 ∨ 15 < rp
  · rw [if_pos h2]; exact .inl ⟨rfl, (by decide : (22 : Int) ≠ 0), rfl⟩
  rw [if_neg h2, if_neg (not_not_intro h0), lr]
  by_cases h3 : 2 ≤ (t.rows l).kids ∨ t.low = -1
  · rw [if_pos h3]; exact .inl ⟨rfl, (by decide : (11 : Int) ≠ 0), rfl⟩
  rw [if_neg h3]
  have h4 : ¬ t.low = -1 := fun h => h3 (.inr h)
  obtain ⟨s, s1, s2, s3⟩ := Tb.low_yes h4
  have hf := g.has_free (.inr h4)
  have hfe : (t.rows l).e = f := (Tb.es_some.1 l3).2
  have hnx := g.r.next
  rw [hfe, Tb.conn_eq hf lp rh rp t.low f.sd, if_neg (show ¬ t.nextSd = 0 by omega)]
  have htup : ∀ sd e, t.at sd = some e → e.kind = 2 → ¬ e.tup lp rh rp := by
    rcases g.lookup lp rh rp with ⟨_, k⟩ | ⟨e, _, _, _, _, k⟩
    · exact k
    · omega
  have hlp : 1 ≤ lp ∧ lp < 8 := by
    rcases g.r.kind l f l1 l3 with h | h
    · have := h.lp; omega
    · have := h.kind; omega
  have n : t.New lp rh rp t.low f.sd := ⟨hf, by omega, by omega, by omega, by omega, by rw [s2]; exact s3, htup, fun _ => ⟨l, f, l1, l3, l4, rfl, l5⟩⟩
  obtain ⟨c1, c2, c3, ⟨i, i1, i2, i3, i4⟩, c5⟩ := g.conT n
  have hli : l ≠ i := fun h => by subst h; rw [l3] at i2; cases i2
  have same : (t.conT lp rh rp t.low f.sd).Same ((t.conT lp rh rp t.low f.sd).childT (t.lrow lp)) := by
    refine ⟨fun j => ?_, fun j => ?_, rfl, rfl, rfl, rfl, rfl, rfl⟩
    · unfold Tb.childT Tb.es upA; dsimp only; split <;> simp_all
    · unfold Tb.childT Tb.nx upA; dsimp only; split <;> simp_all
  have hes : ∀ j, ((t.conT lp rh rp t.low f.sd).childT (t.lrow lp)).es j = if j = i then some (conEn t.nextSd lp rh rp t.low f.sd) else t.es j := fun j => by rw [same.es]; exact i4 j
  refine .inr ⟨_, t.low, f, rfl, hlp, by omega, by omega, by omega, (g.r.at_of l1 l3).1, l4, l5, ⟨c1.same same, ?_, ?_, ?_⟩, rfl, rfl, ?_, ?_⟩
  · obtain ⟨fl, F⟩ := c2; exact ⟨fl, F.same same⟩
  · obtain ⟨bl, B⟩ := c3; exact ⟨bl, B.same same⟩
  · have hrw : ∀ j, j ≠ i → ((t.conT lp rh rp t.low f.sd).childT (t.lrow lp)).rows j = if j = l then { (t.rows l) with kids := (t.rows l).kids + 1 } else t.rows j := fun j hj => by
      unfold Tb.childT; dsimp only
      rw [lr]
      by_cases hjl : j = l
      · subst hjl; rw [if_pos rfl, upA_at, i3, upA_ne _ _ hj]
      · rw [if_neg hjl, upA_ne _ _ hjl, i3, upA_ne _ _ hj]
    refine Tb.Q.conn g i1 i2 hes rfl rfl (fun j hj => ?_) (fun j e hj hji hje hjk => ?_)
    · rw [hrw j hj]; split
      · rename_i h; subst h; exact ⟨rfl, rfl, rfl⟩
      · exact ⟨rfl, rfl, rfl⟩
    · rw [hrw j hji]
      by_cases hjl : j = l
      · subst hjl
        rw [if_pos rfl]
        rw [l3] at hje; cases hje
        have hb : b2 (decide ((conEn t.nextSd lp rh rp t.low f.sd).parent = f.sd)) = 1 := by simp [b2, conEn]
        rw [hb]
        refine ⟨rfl, ?_⟩
        have : ¬ 2 ≤ (t.rows j).kids := fun h => h3 (.inl h)
        dsimp only; omega
      · rw [if_neg hjl]
        have hb : b2 (decide ((conEn t.nextSd lp rh rp t.low f.sd).parent = e.sd)) = 0 := by
          have : ¬ (conEn t.nextSd lp rh rp t.low f.sd).parent = e.sd := fun h => hjl (g.r.sdD j l e f hj l1 hje l3 h.symm)
          simp [b2, this]
        have := (g.q.kids j e hj hje hjk).2
        rw [hb]; omega
  · intro sd e hsd hk
    refine ⟨htup sd e hsd hk, fun hs => ?_⟩
    obtain ⟨j, j1, _, j3, _⟩ := Tb.at_row hsd
    have := (g.r.bits s s1).2 ⟨j, e, j1, j3, hk, by omega⟩
    rw [s3] at this; cases this
  · intro sd
    rw [c1.at_same same]; exact c5 sd
end Go.Proofs.Qxb6500351aGreat
