/- THE PLAIN LAW of the whole network, part 9: a row goes; a row ticks. No Go in sight. -/
import Derived.Test.Qxb6500351aGreatPl25
set_option linter.unusedVariables false
set_option linter.unusedSimpArgs false
namespace Go.Proofs.Qxb6500351aGreat
open Go.Eng
structure Bury (w w' : W) (i : Nat) (e0 : En) (c0 : Conn) : Prop where
  hi : i < w.n
  n : w'.n = w.n
  N : w'.N = w.N
  G : w'.G = w.G
  tk : ∀ j, j ≠ i → w'.tk j = w.tk j
  tki : w'.tk i = w.now
  now : w'.now = w.now
  row0 : w.row i e0 c0
  st : c0.x.st = 4
  q : c0.x.quiet ≤ 1
  b : (w.G i).b + 10 ≤ w.now
  row : ∀ j, j < w.n → j ≠ i → ∀ e c, w'.row j e c ↔ w.row j e c
  rowi : ∀ e c, ¬ w'.row i e c
  at_ : ∀ h, h < 3 → ∀ sd e, (w'.H h).t.at sd = some e → e.kind = 2 → ∃ e0, (w.H h).t.at sd = some e0 ∧ e0.kind = 2
  nsd : ∀ h, (w.H h).t.nextSd ≤ (w'.H h).t.nextSd
  hinv : ∀ h, h < 3 → HInv (w'.H h) (w'.q h) h
  hT : ∀ h, (w'.H h).clock ≤ w'.now ∧ 0 ≤ (w'.H h).p.credit ∧ (w'.H h).p.credit ≤ 24
  hist : Hist (dgs w'.D) w'.T w'.M w'.C
  nxt : ∀ h, h < 3 → (w'.H h).p.nxt_ = w'.M ((h : Int) + 1) % 256
  ra : ∀ h, h < 3 → RA (w'.H h).p (dgs w'.D) (w'.H h).clock
  D : ∀ r, r ∈ w'.D → r ∈ w.D
theorem Inv.bury {w w' : W} (I : Inv w) {i : Nat} {e0 : En} {c0 : Conn} (h : Bury w w' i e0 c0) : Inv w' := by
  have hmut : ∀ a b, w'.mut a b ↔ w.mut a b := fun a b =>
    ⟨fun m => ⟨by have := m.hi; rw [h.n] at this; exact this, by have := m.hp; rw [h.n] at this; exact this, by rw [← h.N]; exact m.ip, by rw [← h.N]; exact m.pi⟩,
     fun m => ⟨by rw [h.n]; exact m.hi, by rw [h.n]; exact m.hp, by rw [h.N]; exact m.ip, by rw [h.N]; exact m.pi⟩⟩
  have htk : ∀ j, j < w.n → w.tk j ≤ w'.tk j ∧ w'.tk j ≤ w.now := fun j hj => by
    have := I.tkn j hj
    by_cases hji : j = i
    · subst hji; rw [h.tki]; omega
    · rw [h.tk j hji]; omega
  refine ⟨h.hinv, h.hT, h.hist, h.nxt, h.ra, ?_, ?_, ?_, ?_, ?_, ?_, ?_, ?_, ?_, ?_, ?_, ?_, ?_, ?_, ?_, ?_, ?_, ?_, fun r hr => I.gok r (h.D r hr)⟩
  · intro j hj
    rw [h.n] at hj
    have := I.tkn j hj; have := htk j hj
    rw [h.now, h.G]; omega
  · intro j hj; rw [h.n] at hj; rw [h.N]; exact I.hostR j hj
  · intro hh h3 sd e he hk
    obtain ⟨e0, a, b⟩ := h.at_ hh h3 sd e he hk
    obtain ⟨j, j1, j2, j3⟩ := I.ends hh h3 sd e0 a b
    exact ⟨j, by rw [h.n]; exact j1, by rw [h.N]; exact j2, by rw [h.N]; exact j3⟩
  · intro j hj e c hr
    rw [h.n] at hj; rw [h.N]
    by_cases hji : j = i
    · subst hji; exact absurd hr (h.rowi e c)
    · exact I.tup j hj e c ((h.row j hj hji e c).1 hr)
  · intro a b ha hb h1 h2
    rw [h.n] at ha hb; rw [h.N] at h1 h2
    exact I.uniq a b ha hb h1 h2
  · intro j hj
    rw [h.n] at hj
    obtain ⟨a, b⟩ := I.old j hj
    have := h.nsd (w.N j).host.toNat
    refine ⟨by rw [h.N]; exact a, ?_⟩
    unfold W.host at b ⊢
    rw [h.N]; omega
  · intro j hj; rw [h.n] at hj; rw [h.N]; exact I.ports j hj
  · intro j hj e c hr
    rw [h.n] at hj
    by_cases hji : j = i
    · subst hji; exact absurd hr (h.rowi e c)
    have hr0 := (h.row j hj hji e c).1 hr
    have eT := h.tk j hji
    cases I.sta j hj e c hr0 with
    | syn cl pe o t pa nc wo z zs => exact .syn (by rw [h.N]; exact cl) (by rw [h.N]; exact pe) (by rw [h.G]; exact o) (by rw [eT, h.G]; exact t) pa (by rw [h.N]; exact nc) (by rw [h.N]; exact wo) (by rw [h.G]; exact z) (by rw [h.N]; exact zs)
    | srv p cl pe o t pa nx nc wo z zs => exact .srv p (by rw [h.N]; exact cl) (by rw [h.N]; exact pe) (by rw [h.G]; exact o) (by rw [eT, h.G]; exact t) pa (by rw [h.G]; exact nx) (by rw [h.N]; exact nc) (by rw [h.N]; exact wo) (by rw [h.G]; exact z) (by rw [h.N]; exact zs)
    | well p m r o wc wo b => exact .well p ((hmut j p).2 m) (by rw [h.G, h.N]; exact r) (by rw [h.G]; exact o) (by rw [h.N]; exact wc) (by rw [h.N]; exact wo) (fun k => by rw [h.G, eT]; exact b k)
    | bad st why av pf b => exact .bad st why av pf (by rw [h.G, eT]; exact b)
  · intro j hj ha
    rw [h.n] at hj
    rw [h.G, h.now]
    by_cases hji : j = i
    · subst hji; exact h.b
    · exact I.gone j hj (fun e c hr => ha e c ((h.row j hj hji e c).2 hr))
  · intro j hj; rw [h.n] at hj; rw [h.G, h.N]; exact I.gh j hj
  · intro j hj hno
    rw [h.n] at hj
    have := I.new j hj (fun p m => hno p ((hmut j p).2 m))
    rw [h.G, h.N]; exact this
  · intro j hj hc
    rw [h.n] at hj; rw [h.N] at hc ⊢; rw [h.G]; exact I.kid j hj hc
  · intro j hj hc
    rw [h.n] at hj ⊢; rw [h.N] at hc ⊢; rw [h.G]; exact I.cli j hj hc
  · intro a b hab hb ht
    rw [h.n] at hb; rw [h.N] at ht
    obtain ⟨q1, q2⟩ := I.ord a b hab hb ht
    refine ⟨fun e c hr => ?_, by rw [h.G]; exact q2⟩
    by_cases hai : a = i
    · subst hai; exact h.rowi e c hr
    · exact q1 e c ((h.row a (by omega) hai e c).1 hr)
  · intro a b m hc j hj hbj ht
    rw [h.n] at hj; rw [h.N] at hc ht ⊢
    exact I.p5 a b ((hmut a b).1 m) hc j hj hbj ht
  · intro a b m
    rw [h.G]; exact I.pair a b ((hmut a b).1 m)
  · intro j hj e c hr hp
    rw [h.n] at hj
    by_cases hji : j = i
    · subst hji; exact absurd hr (h.rowi e c)
    · rw [h.N]; exact I.rd j hj e c ((h.row j hj hji e c).1 hr) hp
  · intro r hr ht
    rw [h.now] at ht
    have h0 := h.D r hr
    have rt : r.t ≤ w.now := by
      have := (I.hist.ok r.dgr (List.mem_map_of_mem h0)).2
      have h2 := (I.hT (r.src - 1).toNat).1
      have e : r.dgr.t = r.t := rfl
      rw [e] at this
      have e2 : w.T r.dgr.src = (w.H (r.src - 1).toNat).clock := rfl
      rw [e2] at this; omega
    refine (I.recs r h0 ht).mono (by rw [h.n]; exact Nat.le_refl _) (fun j _ => by rw [h.N]; exact SameId.refl _) (fun j _ _ => by rw [h.N]) (fun a b m => (hmut a b).2 m) (fun a j ha hp => .inl (by rw [h.N] at hp; exact hp)) (fun a b ha hb => I.peer_lt ha hb) (fun j _ => by rw [h.G]; exact Gh.Le.refl _) (fun j _ => ⟨[], by rw [h.N]; simp, fun _ => rfl⟩) (fun j hj => (I.gh j hj).xn) (fun j B hj hw => ?_) (fun j q hj h2 hq hp => ?_) (by rw [h.now]; exact rt) (fun j hj => by have := (I.tkn j hj).1; omega)
    · by_cases hji : j = i
      · subst hji
        have := htk j hj
        exact ⟨by rw [h.G]; have := hw.1; omega, fun e c hr => absurd hr (h.rowi e c)⟩
      · rw [h.tk j hji]
        have e : B + 12 * (w.tk j - w.tk j) = B := by omega
        rw [e]
        refine ⟨by rw [h.G]; exact hw.1, fun e c hr hs => ?_⟩
        rw [h.G]; exact hw.2 e c ((h.row j hj hji e c).1 hr) hs
    · by_cases hji : j = i
      · subst hji
        obtain ⟨e, c, hr, hs⟩ := hp
        rw [(hr.inj h.row0).2] at hs
        have := hs h.st; have := h.q; omega
      · rw [h.tk j hji]
        have e : q - (w.tk j - w.tk j) = q := by omega
        rw [e]
        obtain ⟨e, c, hr, hq⟩ := hp
        exact ⟨e, c, (h.row j hj hji e c).2 hr, hq⟩
/-- the world behind a freed row -/
def W.drop (w : W) (i : Nat) (e0 : En) (c1 : Conn) (t' : Tb) (q' : Int → List Int) : W :=
  { w with
    H := upA w.H (w.N i).host.toNat { (w.host i) with c := upA (w.host i).c e0.slot.toNat c1, t := t' }
    q := upA w.q (w.N i).host.toNat q'
    tk := upA w.tk i w.now }
theorem Inv.drop {w : W} (I : Inv w) {i : Nat} (hi : i < w.n) {e0 : En} {c0 c1 : Conn} (r : w.row i e0 c0) (st : c0.x.st = 4) (q : c0.x.quiet ≤ 1) (htk : w.tk i + 1 = w.now) (c1ok : c1.Ok) (c1s : c1.x.st = 0) {t' : Tb} {q' : Int → List Int} (good : t'.Good q') (K : t'.K) (tok : t'.Ok) (at_ : ∀ x, t'.at x = if x = (w.N i).sd then none else (w.host i).t.at x) (nsd : t'.nextSd = (w.host i).t.nextSd) : Inv (w.drop i e0 c1 t' q') ∧ (∀ e c, ¬ (w.drop i e0 c1 t' q').row i e c) ∧ ∀ j, j < w.n → j ≠ i → ∀ e c, (w.drop i e0 c1 t' q').row j e c ↔ w.row j e c := by
  have hh3 : (w.N i).host.toNat < 3 := by have := I.hostR i hi; omega
  have HI := I.hhost hi
  have hHi : (w.drop i e0 c1 t' q').H (w.N i).host.toNat = { (w.host i) with c := upA (w.host i).c e0.slot.toNat c1, t := t' } := upA_at ..
  have hHn : ∀ h, h ≠ (w.N i).host.toNat → (w.drop i e0 c1 t' q').H h = w.H h := fun h hne => upA_ne _ _ hne
  have ek : ∀ h, ((w.drop i e0 c1 t' q').H h).clock = (w.H h).clock ∧ ((w.drop i e0 c1 t' q').H h).p = (w.H h).p := fun h => by
    by_cases hh : h = (w.N i).host.toNat
    · subst hh; rw [hHi]; exact ⟨rfl, rfl⟩
    · rw [hHn h hh]; exact ⟨rfl, rfl⟩
  have slot0 := (HI.good.kindC (Tb.at_row r.at_).choose_spec.1 (Tb.at_row r.at_).choose_spec.2.2.1 (by rw [r.kind]; decide)).slot
  have rowi : ∀ e c, ¬ (w.drop i e0 c1 t' q').row i e c := fun e c hr => by
    have := hr.at_
    have e1 : (w.drop i e0 c1 t' q').host i = { (w.host i) with c := upA (w.host i).c e0.slot.toNat c1, t := t' } := hHi
    rw [e1] at this
    have this : t'.at (w.N i).sd = some e := this
    rw [at_, if_pos rfl] at this; cases this
  have slotne : ∀ x f, (w.host i).t.at x = some f → f.kind = 2 → x ≠ (w.N i).sd → f.slot.toNat ≠ e0.slot.toNat := fun x f hf hk hx hs => by
    obtain ⟨a, a1, _, a3, a4⟩ := Tb.at_row hf
    obtain ⟨b, b1, _, b3, b4⟩ := Tb.at_row r.at_
    have c1 := (HI.good.kindC a1 a3 (by omega)).slot
    have := HI.good.r.slots a b f e0 a1 b1 a3 b3 hk r.kind (by omega)
    subst this
    rw [a3] at b3; cases b3
    exact hx (a4.symm.trans b4)
  have rows : ∀ j, j < w.n → j ≠ i → ∀ e c, (w.drop i e0 c1 t' q').row j e c ↔ w.row j e c := fun j hj hji e c => by
    by_cases hh : (w.N j).host.toNat = (w.N i).host.toNat
    · have h0 : (w.N j).host = (w.N i).host := toNat_inj hh (I.hostR j hj).1 (I.hostR i hi).1
      have hsd : (w.N j).sd ≠ (w.N i).sd := fun h => hji (I.uniq j i hj hi h0 h)
      have hhost : w.host j = w.host i := by unfold W.host; rw [h0]
      have e1 : (w.drop i e0 c1 t' q').host j = { (w.host i) with c := upA (w.host i).c e0.slot.toNat c1, t := t' } := by
        have : (w.drop i e0 c1 t' q').host j = (w.drop i e0 c1 t' q').H (w.N j).host.toNat := rfl
        rw [this, hh]; exact hHi
      constructor
      · intro hr
        have h1 := hr.at_
        rw [e1] at h1
        have h1 : t'.at (w.N j).sd = some e := h1
        rw [at_, if_neg hsd] at h1
        refine ⟨by rw [hhost]; exact h1, hr.kind, ?_⟩
        have h2 := hr.c
        rw [e1] at h2
        have h2 : c = upA (w.host i).c e0.slot.toNat c1 e.slot.toNat := h2
        rw [upA_ne _ _ (slotne _ e h1 hr.kind hsd)] at h2
        rw [hhost]; exact h2
      · intro hr
        have h1 := hr.at_
        rw [hhost] at h1
        refine ⟨?_, hr.kind, ?_⟩
        · rw [e1]
          show t'.at (w.N j).sd = _
          rw [at_, if_neg hsd]; exact h1
        · rw [e1]
          show c = upA (w.host i).c e0.slot.toNat c1 e.slot.toNat
          rw [upA_ne _ _ (slotne _ e h1 hr.kind hsd), ← hhost]; exact hr.c
    · have e1 : (w.drop i e0 c1 t' q').host j = w.host j := by
        have : (w.drop i e0 c1 t' q').host j = (w.drop i e0 c1 t' q').H (w.N j).host.toNat := rfl
        rw [this, hHn _ hh]; rfl
      constructor
      · intro hr; exact ⟨by have := hr.at_; rw [e1] at this; exact this, hr.kind, by rw [← e1]; exact hr.c⟩
      · intro hr; exact ⟨by rw [e1]; exact hr.at_, hr.kind, by rw [e1]; exact hr.c⟩
  have hb : (w.G i).b + 10 ≤ w.now := by
    cases I.sta i hi e0 c0 r with
    | syn cl pe o => have := o.st; omega
    | srv p cl pe o => have := o.st; omega
    | well p m r o wc wo b => have := b st; omega
    | bad st why av pf b => omega
  refine ⟨I.bury (i := i) (e0 := e0) (c0 := c0) ⟨hi, rfl, rfl, rfl, fun j hj => upA_ne _ _ hj, upA_at .., rfl, r, st, q, hb, rows, rowi, ?_, ?_, ?_, ?_, ?_, ?_, ?_, fun r h => h⟩, rowi, rows⟩
  · intro h h3 sd e he hk
    by_cases hh : h = (w.N i).host.toNat
    · subst hh
      rw [hHi] at he
      have he : t'.at sd = some e := he
      rw [at_] at he
      split at he
      · cases he
      · exact ⟨e, he, hk⟩
    · rw [hHn h hh] at he; exact ⟨e, he, hk⟩
  · intro h
    by_cases hh : h = (w.N i).host.toNat
    · subst hh; rw [hHi]
      show _ ≤ t'.nextSd
      rw [nsd]; exact Int.le_refl _
    · rw [hHn h hh]; exact Int.le_refl _
  · intro h h3
    by_cases hh : h = (w.N i).host.toNat
    · subst hh
      have hq : (w.drop i e0 c1 t' q').q (w.N i).host.toNat = q' := upA_at ..
      rw [hHi, hq]
      refine ⟨HI.addr, HI.p, HI.pa, fun k => ?_, good, K, tok, fun s s4 hs => ?_⟩
      · show (upA (w.host i).c e0.slot.toNat c1 k).Ok
        by_cases hk : k = e0.slot.toNat
        · subst hk; rw [upA_at]; exact c1ok
        · rw [upA_ne _ _ hk]; exact HI.c k
      · show (upA (w.host i).c e0.slot.toNat c1 s).x.st = 0
        by_cases hk : s = e0.slot.toNat
        · subst hk; rw [upA_at]; exact c1s
        · rw [upA_ne _ _ hk]
          refine HI.idle s s4 (fun sd e he hk2 => ?_)
          by_cases hsd : sd = (w.N i).sd
          · subst hsd
            rw [r.at_] at he; cases he
            intro h; exact hk (by omega)
          · refine hs sd e ?_ hk2
            show t'.at _ = _
            rw [at_, if_neg hsd]; exact he
    · rw [hHn h hh]
      have hq : (w.drop i e0 c1 t' q').q h = w.q h := upA_ne _ _ hh
      rw [hq]; exact I.hi h h3
  · intro h; rw [(ek h).1, (ek h).2]; exact I.hT h
  · have e1 : (w.drop i e0 c1 t' q').T = w.T := by funext s; exact (ek _).1
    have e2 : (w.drop i e0 c1 t' q').C = w.C := by
      funext s
      show ((w.drop i e0 c1 t' q').H _).p.credit = _
      rw [(ek _).2]; rfl
    rw [e1, e2]; exact I.hist
  · intro h h3; rw [(ek h).2]; exact I.nxt h h3
  · intro h h3; rw [(ek h).1, (ek h).2]; exact I.ra h h3
end Go.Proofs.Qxb6500351aGreat
