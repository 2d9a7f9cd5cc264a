/- THE PLAIN LAW of the whole network, part 18: a listener is closed. No Go in sight. -/
import Derived.Test.Qxb6500351aGreatPl35
set_option linter.unusedVariables false
set_option linter.unusedSimpArgs false
namespace Go.Proofs.Qxb6500351aGreat
open Go.Eng
theorem RowEff.tr {w w' : W} {i : Nat} (I : Inv w) (h : RowEff w w' i) (h3 : ∀ e c, w'.row i e c → c.x.st ≠ 3) : TrI w w' i := by
  obtain ⟨e0, e1, c0, c1, r0, r1, s, wo, pe, may, why, _⟩ := h.row
  refine ⟨fun e c r => ?_, fun ha => absurd r0 (ha e0 c0)⟩
  obtain ⟨q1, q2⟩ := r.inj r0
  subst q1 q2
  exact .inl ⟨e1, c1, r1, may, why, fun k => absurd k (h3 e1 c1 r1)⟩
theorem Out.stay {w : W} (I : Inv w) (sy : Syn w) (h : Nat) : Out w w h (w.H h) [] 0 :=
  ⟨I, rfl, fun _ _ => rfl, fun _ _ => rfl, rfl, sy, ⟨[], by simp, rfl, by simp, by simp, fun r hr => absurd hr (by simp)⟩, .inl rfl, QStep.refl _⟩
theorem Out.trans {w w1 w2 : W} {h : Nat} {H1 H2 : Hst} {f1 f2 : List (List Int)} {k1 k2 : Nat} (a : Out w w1 h H1 f1 k1) (b : Out w1 w2 h H2 f2 k2) (qs : QStep (w.q h) (w2.q h)) : Out w w2 h H2 (f1 ++ f2) (k1 + k2) := by
  obtain ⟨D1, a1, a2, a3, a4, a5⟩ := a.D
  obtain ⟨D2, b1, b2', b3, b4, b5⟩ := b.D
  have ha := a.hst
  refine ⟨b.inv, b.hst, fun j hj => (b.H j hj).trans (a.H j hj), fun j hj => (b.q j hj).trans (a.q j hj), b.now.trans a.now, b.syn, ⟨D1 ++ D2, ?_, ?_, ?_, ?_, fun r hr => (List.mem_append.1 hr).elim (a5 r) (fun k => (b5 r k).trans a.now)⟩, ?_, qs⟩
  · rw [b1, a1, List.append_assoc]
  · rw [a2, b2', List.map_append, List.flatten_append]
  · rw [List.length_append]; omega
  · rw [b4, ha, a4, List.length_append]; omega
  · have hb := (b.inv.hT h).2.1
    rw [b.hst] at hb
    rcases a.lost with k | ⟨k, k'⟩ <;> rcases b.lost with l | ⟨l, l'⟩
    · left; rw [l, ha, k]
    · right; rw [ha] at l; exact ⟨by omega, l'⟩
    · right; rw [ha] at l; exact ⟨by omega, by rw [b4, ha, k']; have : H2.p.credit = (w1.H h).p.credit - D2.length := b4; rw [ha, k'] at this; omega⟩
    · right; rw [ha] at l; exact ⟨by omega, l'⟩
structure Shut (w w' : W) (h : Nat) (lsd : Int) (l : List Int) : Prop where
  out : Out w w' h ((w.H h).shutH lsd l) ((w.H h).shutF lsd l) l.length
  n : w'.n = w.n
  N : w'.N = w.N
  q : w'.q = w.q
  t : (w'.H h).t = (w.H h).t
  G : w'.G = w.G
  tr : ∀ i, i < w.n → TrI w w' i
  same : ∀ i, i < w.n → ¬ ((w.N i).host = (h : Int) ∧ (w.N i).sd ∈ l) → ∀ e c, w'.row i e c ↔ w.row i e c
  kid : ∀ i, i < w.n → (w.N i).host = (h : Int) → (w.N i).sd ∈ l → ∀ e c, w'.row i e c → e.parent = lsd → c.x.st = 4 ∧ c.x.why ≠ 0
theorem Inv.shut_list {h : Nat} (h3 : h < 3) {lsd : Int} (hl0 : lsd ≠ 0) : ∀ (l : List Int) (w : W), Inv w → Syn w → l.Nodup → (∀ sd, sd ∈ l → ∃ e, (w.H h).t.at sd = some e) → ∃ w', Shut w w' h lsd l
  | [], w, I, sy, _, _ => ⟨w, Out.stay I sy h, rfl, rfl, rfl, rfl, rfl, fun i _ => TrI.refl w i, fun i _ _ e c => Iff.rfl, fun i _ _ hm => absurd hm (by simp)⟩
  | sd :: l, w, I, sy, hn, hp => by
    obtain ⟨hnl, hn'⟩ := List.nodup_cons.1 hn
    obtain ⟨e0, he⟩ := hp sd (List.mem_cons_self ..)
    obtain ⟨en1, er1⟩ := ent_of he
    have HI := I.hi h h3
    have hsd : ∀ x, x ∈ l → x ≠ sd := fun x hx h => by subst h; exact hnl hx
    -- the first
    have one : ∃ w1, Out w w1 h ((w.H h).shutH1 lsd sd) ((w.H h).shutF1 lsd sd) 1 ∧ w1.n = w.n ∧ w1.N = w.N ∧ w1.q = w.q ∧ (w1.H h).t = (w.H h).t ∧ w1.G = w.G ∧ (∀ i, i < w.n → TrI w w1 i) ∧ (∀ i, i < w.n → ¬ ((w.N i).host = (h : Int) ∧ (w.N i).sd = sd) → ∀ e c, w1.row i e c ↔ w.row i e c) ∧
        (∀ i, i < w.n → (w.N i).host = (h : Int) → (w.N i).sd = sd → ∀ e c, w1.row i e c → e.parent = lsd → c.x.st = 4 ∧ c.x.why ≠ 0) := by
      by_cases hpar : e0.parent = lsd
      · have hk : e0.kind = 2 := by
          obtain ⟨i, i1, _, i3, _⟩ := Tb.at_row he
          rcases HI.good.r.kind i e0 i1 i3 with k | k
          · have := k.parent; omega
          · exact k.kind
        obtain ⟨a0, w1, i, a1, a2, a3, a4, a5, a6, a7, a8, a9, a10⟩ := I.abort sy h3 he hk
        have go := Hst.shut_go (H := w.H h) (lsd := lsd) (sd := sd) ⟨er1, by rw [en1]; exact hpar, a0⟩
        rw [go.1, go.2]
        have only : ∀ j, j < w.n → ((w.N j).host = (h : Int) ∧ (w.N j).sd = sd) → j = i := fun j hj hjj => I.uniq j i hj a2.hi (hjj.1.trans a3.symm) (hjj.2.trans a4.symm)
        have hN : w1.N = w.N := by
          funext j
          by_cases hj : j = i
          · subst hj; exact a5
          · exact a2.N j hj
        refine ⟨w1, a1, a2.n, hN, a9, ?_, a10, fun j hj => ?_, fun j hj hnj => ?_, fun j hj hjh hjs e c r hep => ?_⟩
        · rw [a1.hst]; unfold Hst.aft; rfl
        · by_cases hji : j = i
          · subst hji
            refine RowEff.tr I a2 (fun e c r => ?_)
            rw [(r.inj a8).2, a6]; decide
          · exact TrI.same (a2.rows j hj hji)
        · by_cases hji : j = i
          · subst hji; exact absurd ⟨a3, a4⟩ hnj
          · exact a2.rows j hj hji
        · have hji := only j hj ⟨hjh, hjs⟩
          subst hji
          rw [(r.inj a8).2]; exact ⟨a6, a7⟩
      · have sk := Hst.shut_skip (H := w.H h) (lsd := lsd) (sd := sd) (by rw [en1]; exact fun k => hpar k.2.1)
        rw [sk.1, sk.2]
        refine ⟨w, ?_, rfl, rfl, rfl, rfl, rfl, fun i _ => TrI.refl w i, fun i _ _ e c => Iff.rfl, fun i hi hh hs e c r hep => ?_⟩
        · obtain ⟨b1, b2, b3, b4, b5, b6, ⟨Dn, d1, d2, d3, d4, d5⟩, b8, b9⟩ := Out.stay I sy h
          exact ⟨b1, b2, b3, b4, b5, b6, ⟨Dn, d1, d2, by omega, d4, d5⟩, b8, b9⟩
        · exfalso
          have hw : w.host i = w.H h := by unfold W.host; rw [hh]; simp
          have := r.at_
          rw [hw, hs, he] at this
          cases this
          exact hpar hep
    obtain ⟨w1, a1, a2, a3, a4, a5, a9, a6, a7, a8⟩ := one
    obtain ⟨w', B⟩ := Inv.shut_list h3 hl0 l w1 a1.inv a1.syn hn' (fun x hx => by
      obtain ⟨e, he⟩ := hp x (List.mem_cons_of_mem _ hx)
      exact ⟨e, by rw [a5]; exact he⟩)
    have hst1 : w1.H h = (w.H h).shutH1 lsd sd := a1.hst
    have outB := B.out
    rw [hst1] at outB
    refine ⟨w', ?_, B.n.trans a2, B.N.trans a3, B.q.trans a4, B.t.trans a5, B.G.trans a9, fun i hi => ?_, fun i hi hni e c => ?_, fun i hi hh hm e c r hep => ?_⟩
    · have := Out.trans a1 outB (by rw [B.q, a4]; exact QStep.refl _)
      simp only [Hst.shutH, Hst.shutF, List.length_cons]
      rw [Nat.add_comm] at this
      exact this
    · by_cases c1 : (w.N i).host = (h : Int) ∧ (w.N i).sd = sd
      · refine (a6 i hi).post (B.same i (by rw [a2]; exact hi) (fun k => ?_))
        rw [a3] at k
        exact hsd _ k.2 c1.2
      · exact (B.tr i (by rw [a2]; exact hi)).pre (a7 i hi c1)
    · rw [B.same i (by rw [a2]; exact hi) (fun k => hni ⟨by rw [a3] at k; exact k.1, by rw [a3] at k; exact List.mem_cons_of_mem _ k.2⟩) e c]
      exact a7 i hi (fun k => hni ⟨k.1, by rw [k.2]; exact List.mem_cons_self ..⟩) e c
    · rcases List.mem_cons.1 hm with k | k
      · have := (B.same i (by rw [a2]; exact hi) (fun q => by rw [a3] at q; exact hsd _ q.2 k) e c).1 r
        exact a8 i hi hh k e c this hep
      · exact B.kid i (by rw [a2]; exact hi) (by rw [a3]; exact hh) (by rw [a3]; exact k) e c r hep
/-- A LISTENER IS CLOSED -/
structure ShutDown (w w' : W) (h : Nat) (lsd : Int) : Prop where
  out : Out w w' h ((w.H h).shutdown lsd) ((w.H h).shutF lsd (w.H h).t.list) 6
  n : w'.n = w.n
  N : w'.N = w.N
  at_ : ∀ x, (w'.H h).t.at x = if x = lsd then none else ((w.H h).t.at x).map (orph lsd)
  nsd : (w'.H h).t.nextSd = (w.H h).t.nextSd
  tr : ∀ i, i < w.n → TrI w w' i
  kid : ∀ i, i < w.n → (w.N i).host = (h : Int) → ∀ e0 c0, w.row i e0 c0 → e0.parent = lsd → ∀ e c, w'.row i e c → e.parent = 0 ∧ c.x.st = 4 ∧ c.x.why ≠ 0
  sub : ∀ x, (w'.q h x).Sublist (w.q h x)
  G : w'.G = w.G
theorem Inv.shutdown {w : W} (I : Inv w) (sy : Syn w) {h : Nat} (h3 : h < 3) {lsd : Int} {f : En} (hf : (w.H h).t.at lsd = some f) (hk : f.kind = 1) : ∃ w', ShutDown w w' h lsd := by
  have HI := I.hi h h3
  have hl0 : lsd ≠ 0 := by
    obtain ⟨i, i1, _, i3, i4⟩ := Tb.at_row hf
    have := (HI.good.r.sd i f i1 i3).1; omega
  obtain ⟨l1, l2, l3⟩ := HI.good.r.list
  obtain ⟨w1, S⟩ := I.shut_list h3 hl0 (w.H h).t.list w sy (sorted_nodup l1) (fun sd hsd => (l3 sd).1 hsd)
  have I1 := S.out.inv
  have HI1 := I1.hi h h3
  have hf1 : (w1.H h).t.at lsd = some f := by rw [S.t]; exact hf
  obtain ⟨u, u1, u2, u3, u4, u5⟩ := HI1.good.freeL hf1 hk
  have uK := HI1.good.K_free HI1.k hf1
  have uo := HI1.good.ok_free HI1.tok HI1.k hf1
  rw [u1] at uK uo
  have hkids : ∀ sd e, (w1.H h).t.at sd = some e → e.kind = 2 → e.parent = lsd → ((w1.H h).c e.slot.toNat).x.st = 4 ∧ ((w1.H h).c e.slot.toNat).x.why ≠ 0 := fun sd e he hk2 hep => by
    obtain ⟨i, i1, i2, i3, i4, i5, r⟩ := I1.end_of h3 he hk2
    rw [S.n] at i1
    rw [S.N] at i2 i3
    refine S.kid i i1 i2 ?_ e _ r hep
    rw [i3]
    exact (l3 sd).2 ⟨e, by rw [← S.t]; exact he⟩
  have x := I1.setT h3 u2 uK uo (by omega) (fun sd e' he hk2 => by
    rw [u5] at he
    split at he
    · cases he
    · rw [Option.map_eq_some_iff] at he
      obtain ⟨e, a, b⟩ := he
      have hs := orph_sim lsd e
      rw [b] at hs
      have hk' : e.kind = 2 := by rw [hs.kind]; exact hk2
      refine ⟨e, a, hk', hs, fun hp => ?_, fun hp => ?_, fun h2 => ?_⟩
      · rw [← b] at hp ⊢
        unfold orph at hp ⊢
        split
        · rename_i hh; rw [if_pos hh] at hp; exact absurd rfl hp
        · rfl
      · rw [← b]; unfold orph; split
        · rfl
        · exact hp
      · by_cases hep : e.parent = lsd
        · have := (hkids sd e a hk' hep).1; omega
        · rw [← b]; unfold orph; rw [if_neg hep]) (fun sd e he hk2 => by
    refine ⟨orph lsd e, ?_, (orph_sim lsd e).kind.symm.trans hk2, (orph_sim lsd e).slot.symm⟩
    rw [u5, if_neg]
    · rw [he]; rfl
    · intro hs; subst hs; rw [hf1] at he; cases he; omega)
  obtain ⟨y, z⟩ := TabEff.of I1 S.out.syn x
  have hst : (w1.setT h u (updQ (w1.q h) lsd [])).H h = (w.H h).shutdown lsd := by
    rw [y.hst, S.out.hst]
    unfold Hst.shutdown
    have : ((w.H h).t.freeSd lsd).2 = u := by rw [← S.t, u1]
    rw [this]
  have sub : ∀ x, ((w1.setT h u (updQ (w1.q h) lsd [])).q h x).Sublist (w.q h x) := fun x => by
    rw [z, S.q]
    by_cases hx : x = lsd
    · subst hx; rw [updQ_at]; exact List.nil_sublist _
    · rw [updQ_ne _ _ hx]; exact List.Sublist.refl _
  obtain ⟨Dn, d1, d2, d3, d4, d5⟩ := S.out.D
  have hll := (w.H h).t.list_len
  refine ⟨_, ⟨y.inv, hst, fun j hj => (y.H j hj).trans (S.out.H j hj), fun j hj => (y.q j hj).trans (by rw [S.q]), y.now.trans S.out.now, y.syn, ⟨Dn, by rw [y.D, d1], d2, by omega, ?_, d5⟩, ?_, .inl sub⟩, y.n.trans S.n, y.N.trans S.N, fun x => ?_, ?_, fun i hi => ?_, fun i hi hh e0 c0 r0 hep e c r => ?_, sub, y.G.trans S.G⟩
  · rw [← hst, y.hst]
    show (w1.H h).p.credit = _
    rw [S.out.hst]; exact d4
  · rw [← hst, y.hst]
    show (w1.H h).lost = _ ∨ (_ < (w1.H h).lost ∧ (w1.H h).p.credit = 0)
    rw [S.out.hst]; exact S.out.lost
  · rw [y.hst, ← S.t]; exact u5 x
  · rw [y.hst, ← S.t]; exact u3
  · have hi1 : i < w1.n := by rw [S.n]; exact hi
    refine ⟨fun e0 c0 r0 => ?_, fun ha e c r => ?_⟩
    · rcases (S.tr i hi).stay e0 c0 r0 with ⟨e1, c1, r1, m⟩ | ⟨ab, st⟩
      · obtain ⟨e', r'⟩ := y.rowB i hi1 e1 c1 r1
        exact .inl ⟨e', c1, r', m⟩
      · refine .inr ⟨fun e c r => ?_, st⟩
        obtain ⟨e', r', _⟩ := y.rowF i hi1 e c r
        exact ab e' c r'
    · obtain ⟨e', r', _⟩ := y.rowF i hi1 e c r
      exact (S.tr i hi).absent ha e' c r'
  · have hi1 : i < w1.n := by rw [S.n]; exact hi
    obtain ⟨e', r', s⟩ := y.rowF i hi1 e c r
    have hw : w.host i = w.H h := by unfold W.host; rw [hh]; simp
    have hw1 : w1.host i = w1.H h := by unfold W.host; rw [S.N, hh]; simp
    have h1 := r'.at_
    rw [hw1, S.N, S.t] at h1
    have h0 := r0.at_
    rw [hw] at h0
    rw [h0] at h1
    cases h1
    have hm : (w.N i).sd ∈ (w.H h).t.list := (l3 _).2 ⟨_, h0⟩
    refine ⟨?_, S.kid i hi hh hm _ c r' hep⟩
    -- the entry is orphaned
    have h2 := r.at_
    have hw2 : (w1.setT h u (updQ (w1.q h) lsd [])).host i = (w1.setT h u (updQ (w1.q h) lsd [])).H h := by
      unfold W.host; rw [y.N, S.N, hh]; simp
    rw [hw2, y.hst, y.N, S.N] at h2
    have h2 : u.at (w.N i).sd = some e := h2
    rw [u5, S.t] at h2
    split at h2
    · cases h2
    · rw [h0] at h2
      simp only [Option.map_some, Option.some.injEq] at h2
      rw [← h2]; unfold orph; rw [if_pos hep]; rfl
end Go.Proofs.Qxb6500351aGreat
