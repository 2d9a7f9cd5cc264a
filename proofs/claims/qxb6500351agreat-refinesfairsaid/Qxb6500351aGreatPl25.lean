/- THE PLAIN LAW of the whole network, part 8: an end is born. No Go in sight. -/
import Derived.Test.Qxb6500351aGreatPl24
set_option linter.unusedVariables false
set_option linter.unusedSimpArgs false
namespace Go.Proofs.Qxb6500351aGreat
open Go.Eng
structure Birth (w w' : W) (e1 : En) (c1 : Conn) : Prop where
  n : w'.n = w.n + 1
  now : w'.now = w.now
  N : ∀ j, j < w.n → w'.N j = w.N j
  G : ∀ j, j < w.n → w'.G j = w.G j
  tk : ∀ j, j < w.n → w'.tk j = w.tk j
  tkn : w'.tk w.n = w.now
  row : ∀ j, j < w.n → ∀ e c, w'.row j e c ↔ w.row j e c
  rowi : w'.row w.n e1 c1
  tup : e1.tup (w'.N w.n).lPort (w'.N w.n).rHost (w'.N w.n).rPort
  at_ : ∀ h, h < 3 → ∀ sd e, (w'.H h).t.at sd = some e → e.kind = 2 → (∃ e0, (w.H h).t.at sd = some e0 ∧ e0.kind = 2) ∨ ((w'.N w.n).host = (h : Int) ∧ (w'.N w.n).sd = sd)
  nsd : ∀ h, (w.H h).t.nextSd ≤ (w'.H h).t.nextSd
  sd : (w.H (w'.N w.n).host.toNat).t.nextSd = (w'.N w.n).sd ∧ 1 ≤ (w'.N w.n).sd ∧ (w'.N w.n).sd < (w'.H (w'.N w.n).host.toNat).t.nextSd
  host : 0 ≤ (w'.N w.n).host ∧ (w'.N w.n).host < 3
  ports : (1 ≤ (w'.N w.n).rHost ∧ (w'.N w.n).rHost ≤ 255) ∧ (1 ≤ (w'.N w.n).rPort ∧ (w'.N w.n).rPort ≤ 15) ∧ ((w'.N w.n).client = true → 8 ≤ (w'.N w.n).lPort ∧ (w'.N w.n).lPort ≤ 15) ∧ ((w'.N w.n).client = false → (1 ≤ (w'.N w.n).lPort ∧ (w'.N w.n).lPort < 8) ∧ 8 ≤ (w'.N w.n).rPort ∧ (w'.N w.n).rHost ≤ 3)
  hinv : ∀ h, h < 3 → HInv (w'.H h) (w'.q h) h
  hT : ∀ h, (w'.H h).clock ≤ w'.now ∧ 0 ≤ (w'.H h).p.credit ∧ (w'.H h).p.credit ≤ 24
  hist : Hist (dgs w'.D) w'.T w'.M w'.C
  nxt : ∀ h, h < 3 → (w'.H h).p.nxt_ = w'.M ((h : Int) + 1) % 256
  ra : ∀ h, h < 3 → RA (w'.H h).p (dgs w'.D) (w'.H h).clock
  sta : Sta w' w.n e1 c1
  g : ∃ iss, 0 ≤ iss ∧ iss < 256 ∧ w'.G w.n = Gh.new iss w.now
  sent : (w'.N w.n).sent = []
  kid : (w'.N w.n).client = false → ∃ p : Nat, p < w.n ∧ (w'.N w.n).peer = (p : Int) ∧ (w.N p).client = true ∧ mir (w'.N w.n) (w.N p) ∧ (w.G p).b ≤ w.now ∧ w.now ≤ (w.G p).b + 34
  cli : (w'.N w.n).client = true → (w'.G w.n).iss = w.now % 256 ∧ (w'.N w.n).peer = -1
  twins : ∀ j, j < w.n → twin (w.N j) (w'.N w.n) → ∀ e c, ¬ w.row j e c
  p5 : ∀ i p, w.mut i p → (w.N i).client = true → twin (w.N p) (w'.N w.n) → (i : Int) < (w'.N w.n).peer
  rd : e1.parent ≠ 0 → e1.ready = (w'.N w.n).wasOpen
  D : ∀ r, r ∈ w'.D → r ∈ w.D ∨ RecOk w' r
  gok : ∀ r, r ∈ w'.D → r.g.Ok
theorem Inv.birth {w w' : W} (I : Inv w) {e1 : En} {c1 : Conn} (h : Birth w w' e1 c1) : Inv w' := by
  obtain ⟨iss, is0, is1, hg⟩ := h.g
  have cs : ∀ j, j < w'.n → j < w.n ∨ j = w.n := fun j hj => by rw [h.n] at hj; omega
  have hmut : ∀ a b, w'.mut a b ↔ w.mut a b := fun a b => by
    constructor
    · intro m
      have no : ∀ x y, w'.mut x y → x = w.n → False := fun x y m hx => by
        subst hx
        rcases cs y m.hp with hy | hy
        · have := m.pi
          rw [h.N y hy] at this
          exact absurd (I.peer_lt hy this) (by omega)
        · subst hy
          have := m.ip
          cases hc : (w'.N w.n).client with
          | true => have := (h.cli hc).2; omega
          | false => obtain ⟨p, p1, p2, _⟩ := h.kid hc; omega
      rcases cs a m.hi with ha | ha
      · rcases cs b m.hp with hb | hb
        · exact ⟨ha, hb, by rw [← h.N a ha]; exact m.ip, by rw [← h.N b hb]; exact m.pi⟩
        · exact absurd hb (fun hb => no b a m.symm hb)
      · exact absurd ha (fun ha => no a b m ha)
    · intro m
      exact ⟨by rw [h.n]; have := m.hi; omega, by rw [h.n]; have := m.hp; omega, by rw [h.N a m.hi]; exact m.ip, by rw [h.N b m.hp]; exact m.pi⟩
  have habs : ∀ j, j < w.n → (∀ e c, ¬ w'.row j e c) → ∀ e c, ¬ w.row j e c := fun j hj ha e c hr => ha e c ((h.row j hj e c).2 hr)
  refine ⟨h.hinv, h.hT, h.hist, h.nxt, h.ra, ?_, ?_, ?_, ?_, ?_, ?_, ?_, ?_, ?_, ?_, ?_, ?_, ?_, ?_, ?_, ?_, ?_, ?_, h.gok⟩
  · intro j hj
    rw [h.now]
    rcases cs j hj with hj | hj
    · rw [h.tk j hj, h.G j hj]; exact I.tkn j hj
    · subst hj; rw [h.tkn, hg]; exact ⟨Int.le_refl _, by omega, Int.le_refl _⟩
  · intro j hj
    rcases cs j hj with hj | hj
    · rw [h.N j hj]; exact I.hostR j hj
    · subst hj; exact h.host
  · intro hh h3 sd e he hk
    rcases h.at_ hh h3 sd e he hk with ⟨e0, a, b⟩ | ⟨a, b⟩
    · obtain ⟨j, j1, j2, j3⟩ := I.ends hh h3 sd e0 a b
      exact ⟨j, by rw [h.n]; omega, by rw [h.N j j1]; exact j2, by rw [h.N j j1]; exact j3⟩
    · exact ⟨w.n, by rw [h.n]; omega, a, b⟩
  · intro j hj e c hr
    rcases cs j hj with hj | hj
    · rw [h.N j hj]; exact I.tup j hj e c ((h.row j hj e c).1 hr)
    · subst hj; rw [(hr.inj h.rowi).1]; exact h.tup
  · intro a b ha hb h1 h2
    rcases cs a ha with ha | ha <;> rcases cs b hb with hb | hb
    · rw [h.N a ha, h.N b hb] at h1 h2; exact I.uniq a b ha hb h1 h2
    · subst hb
      have := (I.old a ha).2
      unfold W.host at this
      rw [h.N a ha] at h1 h2
      rw [h1, h.sd.1] at this
      omega
    · subst ha
      have := (I.old b hb).2
      unfold W.host at this
      rw [h.N b hb] at h1 h2
      rw [← h1, h.sd.1] at this
      omega
    · omega
  · intro j hj
    rcases cs j hj with hj | hj
    · obtain ⟨a, b⟩ := I.old j hj
      have := h.nsd (w.N j).host.toNat
      unfold W.host at b ⊢
      rw [h.N j hj]
      exact ⟨a, by omega⟩
    · subst hj; exact h.sd.2
  · intro j hj
    rcases cs j hj with hj | hj
    · rw [h.N j hj]; exact I.ports j hj
    · subst hj; exact h.ports
  · intro j hj e c hr
    rcases cs j hj with hj | hj
    · have hr0 := (h.row j hj e c).1 hr
      have eN := h.N j hj
      have eG := h.G j hj
      have eT := h.tk j hj
      cases I.sta j hj e c hr0 with
      | syn cl pe o t pa nc wo z zs => exact .syn (by rw [eN]; exact cl) (by rw [eN]; exact pe) (by rw [eG]; exact o) (by rw [eT, eG]; exact t) pa (by rw [eN]; exact nc) (by rw [eN]; exact wo) (by rw [eG]; exact z) (by rw [eN]; exact zs)
      | srv p cl pe o t pa nx nc wo z zs => exact .srv p (by rw [eN]; exact cl) (by rw [eN]; exact pe) (by rw [eG]; exact o) (by rw [eT, eG]; exact t) pa (by rw [h.G p (I.peer_lt hj pe)]; exact nx) (by rw [eN]; exact nc) (by rw [eN]; exact wo) (by rw [eG]; exact z) (by rw [eN]; exact zs)
      | well p m r o wc wo b => exact .well p ((hmut j p).2 m) (by rw [eG, eN, h.G p m.hp, h.N p m.hp]; exact r) (by rw [eG]; exact o) (by rw [eN]; exact wc) (by rw [eN]; exact wo) (fun k => by rw [eG, eT]; exact b k)
      | bad st why av pf b => exact .bad st why av pf (by rw [eG, eT]; exact b)
    · subst hj
      obtain ⟨q1, q2⟩ := hr.inj h.rowi
      rw [q1, q2]; exact h.sta
  · intro j hj ha
    rw [h.now]
    rcases cs j hj with hj | hj
    · rw [h.G j hj]; exact I.gone j hj (habs j hj ha)
    · subst hj; exact absurd h.rowi (ha e1 c1)
  · intro j hj
    rcases cs j hj with hj | hj
    · rw [h.G j hj, h.N j hj]; exact I.gh j hj
    · subst hj
      rw [hg]
      exact ⟨⟨is0, is1⟩, Int.le_refl _, Int.le_refl _, by rw [h.sent]; exact Int.le_refl _, Int.le_refl _, fun k => absurd (show false = true from k) (by decide), fun k => absurd (show false = true from k) (by decide), by show (0 : Int) ≤ 0 + 16; omega, ⟨Int.le_refl _, Int.le_refl _⟩, by show (0 : Int) ≤ 0 + 16; omega⟩
  · intro j hj hno
    rcases cs j hj with hj | hj
    · have := I.new j hj (fun p m => hno p ((hmut j p).2 m))
      rw [h.G j hj, h.N j hj]; exact this
    · subst hj; rw [hg]; exact ⟨rfl, h.sent⟩
  · intro j hj hc
    rcases cs j hj with hj | hj
    · rw [h.N j hj] at hc
      obtain ⟨p, p1, p2, p3, p4, p5, p6⟩ := I.kid j hj hc
      have hp : p < w.n := by omega
      exact ⟨p, p1, by rw [h.N j hj]; exact p2, by rw [h.N p hp]; exact p3, by rw [h.N j hj, h.N p hp]; exact p4, by rw [h.G j hj, h.G p hp]; exact p5, by rw [h.G j hj, h.G p hp]; exact p6⟩
    · subst hj
      obtain ⟨p, p1, p2, p3, p4, p5, p6⟩ := h.kid hc
      exact ⟨p, p1, p2, by rw [h.N p p1]; exact p3, by rw [h.N p p1]; exact p4, by rw [hg, h.G p p1]; exact p5, by rw [hg, h.G p p1]; exact p6⟩
  · intro j hj hc
    rcases cs j hj with hj | hj
    · rw [h.N j hj] at hc
      obtain ⟨a, b⟩ := I.cli j hj hc
      refine ⟨by rw [h.G j hj]; exact a, ?_⟩
      rw [h.N j hj]
      rcases b with b | ⟨p, p1, p2, p3, p4⟩
      · exact .inl b
      · exact .inr ⟨p, by rw [h.n]; omega, p2, by rw [h.N p p1]; exact p3, by rw [h.N p p1]; exact p4⟩
    · subst hj
      obtain ⟨a, b⟩ := h.cli hc
      refine ⟨?_, .inl b⟩
      rw [a, hg]; rfl
  · intro a b hab hb ht
    rcases cs b hb with hb | hb
    · have ha : a < w.n := by omega
      rw [h.N a ha, h.N b hb] at ht
      obtain ⟨q1, q2⟩ := I.ord a b hab hb ht
      exact ⟨fun e c hr => q1 e c ((h.row a ha e c).1 hr), by rw [h.G a ha, h.G b hb]; exact q2⟩
    · subst hb
      rw [h.N a hab] at ht
      have ha := h.twins a hab ht
      refine ⟨fun e c hr => ha e c ((h.row a hab e c).1 hr), ?_⟩
      rw [h.G a hab, hg]
      exact I.gone a hab ha
  · intro a b m hc j hj hbj ht
    have m0 := (hmut a b).1 m
    rw [h.N a m0.hi] at hc
    rw [h.N b m0.hp] at ht
    rcases cs j hj with hj | hj
    · rw [h.N j hj] at ht ⊢
      exact I.p5 a b m0 hc j hj hbj ht
    · subst hj; exact h.p5 a b m0 hc ht
  · intro a b m
    have m0 := (hmut a b).1 m
    rw [h.G a m0.hi, h.G b m0.hp]; exact I.pair a b m0
  · intro j hj e c hr hp
    rcases cs j hj with hj | hj
    · rw [h.N j hj]; exact I.rd j hj e c ((h.row j hj e c).1 hr) hp
    · subst hj
      rw [(hr.inj h.rowi).1] at hp ⊢; exact h.rd hp
  · intro r hr ht
    rw [h.now] at ht
    rcases h.D r hr with h0 | h0
    · have rt : r.t ≤ w.now := by
        have := (I.hist.ok r.dgr (List.mem_map_of_mem h0)).2
        have h2 := (I.hT (r.src - 1).toNat).1
        have e : r.dgr.t = r.t := rfl
        rw [e] at this
        have e2 : w.T r.dgr.src = (w.H (r.src - 1).toNat).clock := rfl
        rw [e2] at this; omega
      refine (I.recs r h0 ht).mono (by rw [h.n]; omega) (fun j hj => by rw [h.N j hj]; exact SameId.refl _) (fun j hj _ => by rw [h.N j hj]) (fun a b m => (hmut a b).2 m) (fun a j ha hp => .inl (by rw [h.N a ha] at hp; exact hp)) (fun a b ha hb => I.peer_lt ha hb) (fun j hj => by rw [h.G j hj]; exact Gh.Le.refl _) (fun j hj => ⟨[], by rw [h.N j hj]; simp, fun _ => rfl⟩) (fun j hj => (I.gh j hj).xn) (fun j B hj hw => ?_) (fun j q hj _ hq hp => ?_) (by rw [h.now]; exact rt) (fun j hj => by have := (I.tkn j hj).1; omega)
      · rw [h.tk j hj]
        have e : B + 12 * (w.tk j - w.tk j) = B := by omega
        rw [e]
        refine ⟨by rw [h.G j hj]; exact hw.1, fun e c hr hs => ?_⟩
        rw [h.G j hj]; exact hw.2 e c ((h.row j hj e c).1 hr) hs
      · rw [h.tk j hj]
        have e : q - (w.tk j - w.tk j) = q := by omega
        rw [e]
        obtain ⟨e, c, hr, hq⟩ := hp
        exact ⟨e, c, (h.row j hj e c).2 hr, hq⟩
    · exact h0
/-- the world behind a birth at host h: the table t' holds the new row e1, its block c1; L goes out -/
def W.bear (w : W) (h : Nat) (e1 : En) (c1 : Conn) (t' : Tb) (L : List (Seg × Kd)) (iss : Int) (x1 : Ned) : W :=
  { w with
    H := upA w.H h { (w.H h).emitH e1 (L.map Prod.fst) with c := upA (w.H h).c e1.slot.toNat c1, t := t' }
    n := w.n + 1
    N := upA w.N w.n x1
    G := upA w.G w.n (Gh.new iss w.now)
    tk := upA w.tk w.n w.now
    D := w.D ++ emitR w.now e1 (w.H h) (w.M (w.H h).addr) L
    M := fun s => if s = (w.H h).addr then w.M s + (emitR w.now e1 (w.H h) (w.M (w.H h).addr) L).length else w.M s }
structure Bear (w : W) (h : Nat) (e1 : En) (c1 : Conn) (t' : Tb) (L : List (Seg × Kd)) (iss : Int) (x1 : Ned) : Prop where
  h3 : h < 3
  clk : (w.H h).clock = w.now
  he : e1.Ok
  kind : e1.kind = 2
  slot : 0 ≤ e1.slot ∧ e1.slot < 4
  fresh : ∀ sd e, (w.H h).t.at sd = some e → e.kind = 2 → ¬ e.tup e1.lPort e1.rHost e1.rPort ∧ e.slot ≠ e1.slot
  c1ok : c1.Ok
  Lok : ∀ g k, (g, k) ∈ L → g.Ok
  good : t'.Good (w.q h)
  K : t'.K
  tok : t'.Ok
  at_ : ∀ x, t'.at x = if x = (w.H h).t.nextSd then some e1 else (w.H h).t.at x
  nsd : t'.nextSd = (w.H h).t.nextSd + 1
  host : x1.host = (h : Int)
  sd : x1.sd = (w.H h).t.nextSd
  lp : x1.lPort = e1.lPort
  rh : x1.rHost = e1.rHost
  rp : x1.rPort = e1.rPort
  ports : (1 ≤ x1.rHost ∧ x1.rHost ≤ 255) ∧ (1 ≤ x1.rPort ∧ x1.rPort ≤ 15) ∧ (x1.client = true → 8 ≤ x1.lPort ∧ x1.lPort ≤ 15) ∧ (x1.client = false → (1 ≤ x1.lPort ∧ x1.lPort < 8) ∧ 8 ≤ x1.rPort ∧ x1.rHost ≤ 3)
  issb : 0 ≤ iss ∧ iss < 256
  sent : x1.sent = []
  nc : x1.closed = false
  wo : x1.wasOpen = false
  kid : x1.client = false → Ong c1 2 iss ∧ e1.parent ≠ 0 ∧ e1.ready = false ∧ ∃ p : Nat, p < w.n ∧ x1.peer = (p : Int) ∧ (w.N p).client = true ∧ mir x1 (w.N p) ∧ (w.G p).b ≤ w.now ∧ w.now ≤ (w.G p).b + 34 ∧ c1.r.nxt = ((w.G p).iss + 1) % 256 ∧ ∀ g k, (g, k) ∈ L → k = .sa w.n ∧ g.flags = 3 ∧ g.seq = iss ∧ g.ack = ((w.G p).iss + 1) % 256 ∧ g.data = []
  cli : x1.client = true → Ong c1 1 iss ∧ e1.parent = 0 ∧ iss = w.now % 256 ∧ x1.peer = -1 ∧ ∀ g k, (g, k) ∈ L → k = .syn w.n ∧ g.flags = 1 ∧ g.seq = iss ∧ g.data = []
  rem : rem c1.x ≤ 30
  p5 : ∀ i p, w.mut i p → (w.N i).client = true → twin (w.N p) x1 → (i : Int) < x1.peer
theorem Inv.bear {w : W} (I : Inv w) {h : Nat} {e1 : En} {c1 : Conn} {t' : Tb} {L : List (Seg × Kd)} {iss : Int} {x1 : Ned} (b : Bear w h e1 c1 t' L iss x1) : Inv (w.bear h e1 c1 t' L iss x1) ∧ (w.bear h e1 c1 t' L iss x1).row w.n e1 c1 ∧ ∀ j, j < w.n → ∀ e c, (w.bear h e1 c1 t' L iss x1).row j e c ↔ w.row j e c := by
  have HI := I.hi h b.h3
  have hHh : (w.bear h e1 c1 t' L iss x1).H h = { (w.H h).emitH e1 (L.map Prod.fst) with c := upA (w.H h).c e1.slot.toNat c1, t := t' } := upA_at ..
  have hHn : ∀ j, j ≠ h → (w.bear h e1 c1 t' L iss x1).H j = w.H j := fun j hj => upA_ne _ _ hj
  have hNn : (w.bear h e1 c1 t' L iss x1).N w.n = x1 := upA_at ..
  have hGn : (w.bear h e1 c1 t' L iss x1).G w.n = Gh.new iss w.now := upA_at ..
  have hTn : (w.bear h e1 c1 t' L iss x1).tk w.n = w.now := upA_at ..
  have hN : ∀ j, j < w.n → (w.bear h e1 c1 t' L iss x1).N j = w.N j := fun j hj => upA_ne _ _ (by omega)
  have hG : ∀ j, j < w.n → (w.bear h e1 c1 t' L iss x1).G j = w.G j := fun j hj => upA_ne _ _ (by omega)
  have hhn : x1.host.toNat = h := by rw [b.host]; simp
  obtain ⟨a1, a2, a3, a4, a5, a6⟩ := I.hist_emit b.h3 b.he b.clk b.Lok (w' := w.bear h e1 c1 t' L iss x1) rfl rfl (by rw [hHh]) (by rw [hHh]; exact Hst.emitH_clock _ _ _) (by rw [hHh]; exact Hst.emitH_addr _ _ _) hHn rfl
  have rowi : (w.bear h e1 c1 t' L iss x1).row w.n e1 c1 := by
    refine ⟨?_, b.kind, ?_⟩
    · unfold W.host; rw [hNn, hhn, hHh]
      show t'.at x1.sd = _
      rw [b.at_, b.sd, if_pos rfl]
    · unfold W.host; rw [hNn, hhn, hHh]
      show c1 = upA _ _ c1 _
      rw [upA_at]
  have rows : ∀ j, j < w.n → ∀ e c, (w.bear h e1 c1 t' L iss x1).row j e c ↔ w.row j e c := fun j hj e c => by
    by_cases hh : (w.N j).host.toNat = h
    · have hsd : (w.N j).sd ≠ (w.H h).t.nextSd := by
        have := (I.old j hj).2
        unfold W.host at this; rw [hh] at this; omega
      have e0 : (w.bear h e1 c1 t' L iss x1).host j = { (w.H h).emitH e1 (L.map Prod.fst) with c := upA (w.H h).c e1.slot.toNat c1, t := t' } := by
        unfold W.host; rw [hN j hj, hh, hHh]
      have e2 : w.host j = w.H h := by unfold W.host; rw [hh]
      have e3 : ∀ f, (w.H h).t.at (w.N j).sd = some f → f.kind = 2 → upA (w.H h).c e1.slot.toNat c1 f.slot.toNat = (w.H h).c f.slot.toNat := fun f hf hk => by
        refine upA_ne _ _ fun hs => ?_
        have h1 := (b.fresh _ f hf hk).2
        obtain ⟨a, a1, _, a3, _⟩ := Tb.at_row hf
        have h2 := (HI.good.kindC a1 a3 (by omega)).slot
        have := b.slot
        exact h1 (by omega)
      constructor
      · intro r
        have r1 := r.at_
        rw [e0, hN j hj] at r1
        have r1 : t'.at (w.N j).sd = some e := r1
        rw [b.at_, if_neg hsd] at r1
        refine ⟨by rw [e2]; exact r1, r.kind, ?_⟩
        have r2 := r.c
        rw [e0] at r2
        rw [e2, ← e3 e r1 r.kind]; exact r2
      · intro r
        have r1 := r.at_
        rw [e2] at r1
        refine ⟨?_, r.kind, ?_⟩
        · rw [e0, hN j hj]
          show t'.at _ = _
          rw [b.at_, if_neg hsd]; exact r1
        · rw [e0]
          show c = upA _ _ c1 _
          rw [e3 e r1 r.kind, ← e2]; exact r.c
    · have e0 : (w.bear h e1 c1 t' L iss x1).host j = w.host j := by unfold W.host; rw [hN j hj, hHn _ hh]
      constructor
      · intro r; exact ⟨by have := r.at_; rw [e0, hN j hj] at this; exact this, r.kind, by rw [← e0]; exact r.c⟩
      · intro r; exact ⟨by rw [e0, hN j hj]; exact r.at_, r.kind, by rw [e0]; exact r.c⟩
  have hrem := b.rem
  have st12 : (x1.client = true → c1.x.st = 1) ∧ (x1.client = false → c1.x.st = 2) := ⟨fun k => (b.cli k).1.st, fun k => (b.kid k).1.st⟩
  have stn0 : c1.x.st ≠ 0 ∧ c1.x.st ≠ 4 := by
    cases hc : x1.client with
    | true => have := st12.1 hc; omega
    | false => have := st12.2 hc; omega
  refine ⟨I.birth (e1 := e1) (c1 := c1) ⟨rfl, rfl, hN, hG, fun j hj => upA_ne _ _ (by omega), hTn, rows, rowi, ?_, ?_, ?_, ?_, ?_, ?_, ?_, a1, a2, a3, a4, ?_, ⟨iss, b.issb.1, b.issb.2, hGn⟩, ?_, ?_, ?_, ?_, ?_, ?_, ?_, ?_⟩, rowi, rows⟩
  · rw [hNn, b.lp, b.rh, b.rp]; exact ⟨rfl, rfl, rfl⟩
  · intro h' h3' sd e he hk
    by_cases hj : h' = h
    · subst hj
      rw [hHh] at he
      have he : t'.at sd = some e := he
      rw [b.at_] at he
      split at he
      · rename_i hs
        right; rw [hNn]; exact ⟨b.host, by rw [b.sd, hs]⟩
      · left; exact ⟨e, he, hk⟩
    · rw [hHn h' hj] at he; left; exact ⟨e, he, hk⟩
  · intro h'
    by_cases hj : h' = h
    · subst hj; rw [hHh]
      show _ ≤ t'.nextSd
      rw [b.nsd]; omega
    · rw [hHn h' hj]; exact Int.le_refl _
  · rw [hNn, hhn, hHh]
    refine ⟨b.sd.symm, ?_, ?_⟩
    · rw [b.sd]; exact HI.good.r.next
    · show x1.sd < t'.nextSd
      rw [b.nsd, b.sd]; omega
  · rw [hNn, b.host]; have := b.h3; omega
  · rw [hNn]; exact b.ports
  · intro h' h3'
    by_cases hj : h' = h
    · subst hj
      have hq : (w.bear h' e1 c1 t' L iss x1).q h' = w.q h' := rfl
      rw [hq]
      refine ⟨by rw [hHh]; show ((w.H h').emitH e1 _).addr = _; rw [Hst.emitH_addr]; exact HI.addr, a5, a6, fun k => ?_, by rw [hHh]; exact b.good, by rw [hHh]; exact b.K, by rw [hHh]; exact b.tok, fun s s4 hs => ?_⟩
      · rw [hHh]
        show (upA (w.H h').c e1.slot.toNat c1 k).Ok
        by_cases hk : k = e1.slot.toNat
        · subst hk; rw [upA_at]; exact b.c1ok
        · rw [upA_ne _ _ hk]; exact HI.c k
      · rw [hHh] at hs ⊢
        show (upA (w.H h').c e1.slot.toNat c1 s).x.st = 0
        have hs : ∀ sd e, t'.at sd = some e → e.kind = 2 → e.slot ≠ (s : Int) := hs
        have hse : s ≠ e1.slot.toNat := fun k => by
          refine hs (w.H h').t.nextSd e1 (by rw [b.at_, if_pos rfl]) b.kind ?_
          have := b.slot; omega
        rw [upA_ne _ _ hse]
        refine HI.idle s s4 (fun sd e he hk => hs sd e ?_ hk)
        rw [b.at_, if_neg]; exact he
        intro hsd; subst hsd
        obtain ⟨i, i1, _, i3, i4⟩ := Tb.at_row he
        have := HI.good.r.sd i e i1 i3
        omega
    · rw [hHn h' hj]; exact I.hi h' h3'
  · cases hc : x1.client with
    | true =>
      obtain ⟨k1, k2, k3, k4, _⟩ := b.cli hc
      exact .syn (by rw [hNn]; exact hc) (by rw [hNn]; exact k4) (by rw [hGn]; exact k1) (by rw [hTn, hGn]; show w.now + _ ≤ w.now + 30; omega) k2 (by rw [hNn]; exact b.nc) (by rw [hNn]; exact b.wo) (by rw [hGn]; rfl) (by rw [hNn]; exact b.sent)
    | false =>
      obtain ⟨k1, k2, k3, p, p1, p2, p3, p4, p5, p6, p7, _⟩ := b.kid hc
      exact .srv p (by rw [hNn]; exact hc) (by rw [hNn]; exact p2) (by rw [hGn]; exact k1) (by rw [hTn, hGn]; show w.now + _ ≤ w.now + 30; omega) k2 (by rw [hG p p1]; exact p7) (by rw [hNn]; exact b.nc) (by rw [hNn]; exact b.wo) (by rw [hGn]; rfl) (by rw [hNn]; exact b.sent)
  · rw [hNn]; exact b.sent
  · intro hc
    rw [hNn] at hc ⊢
    obtain ⟨k1, k2, k3, p, p1, p2, p3, p4, p5, p6, p7, _⟩ := b.kid hc
    exact ⟨p, p1, p2, p3, p4, p5, p6⟩
  · intro hc
    rw [hNn] at hc ⊢
    obtain ⟨k1, k2, k3, k4, _⟩ := b.cli hc
    exact ⟨by rw [hGn]; exact k3, k4⟩
  · intro j hj ht e c hr
    rw [hNn] at ht
    have hjh : w.host j = w.H h := by
      unfold W.host; congr 1
      rw [ht.1, hhn]
    have h1 := hr.at_
    rw [hjh] at h1
    have h2 := I.tup j hj e c hr
    refine (b.fresh _ e h1 hr.kind).1 ⟨?_, ?_, ?_⟩
    · rw [h2.1, ht.2.1, b.lp]
    · rw [h2.2.1, ht.2.2.1, b.rh]
    · rw [h2.2.2, ht.2.2.2, b.rp]
  · intro i p m hc ht
    rw [hNn] at ht ⊢
    exact b.p5 i p m hc ht
  · intro hp
    rw [hNn, b.wo]
    cases hc : x1.client with
    | true => exact absurd (b.cli hc).2.1 hp
    | false => exact (b.kid hc).2.2.1
  · intro r hr
    have hr : r ∈ w.D ++ emitR w.now e1 (w.H h) (w.M (w.H h).addr) L := hr
    rcases List.mem_append.1 hr with k | k
    · exact .inl k
    · right
      obtain ⟨g, kd, b1, b2, b3, b4, b5, b6⟩ := emitR_mem L _ _ r k
      have seg : (w.bear h e1 c1 t' L iss x1).seg r w.n := by
        refine ⟨by show w.n < w.n + 1; omega, ?_, ?_, ?_, ?_⟩
        · rw [hNn, b3, b.host]; exact HI.addr
        · rw [hNn, b4, b.rh]
        · rw [hNn, b5, b.lp]; rfl
        · rw [hNn, b5, b.rp]; rfl
      have pr : (w.bear h e1 c1 t' L iss x1).pres w.n (10 - ((w.bear h e1 c1 t' L iss x1).tk w.n - r.t)) := ⟨e1, c1, rowi, fun h4 => absurd h4 stn0.2⟩
      cases hc : x1.client with
      | true =>
        obtain ⟨k1, k2, k3, k4, k5⟩ := b.cli hc
        obtain ⟨q1, q2, q3, q4⟩ := k5 g kd b1
        exact .syn w.n seg (b6.trans q1) (by rw [hNn]; exact hc) (by rw [b5]; exact q2) (by rw [b5, hGn]; exact q3) (by rw [b5]; exact q4) (by rw [hGn, b2]; show w.now ≤ w.now ∧ w.now ≤ w.now + 30; omega) pr (fun j hj => by rw [hNn] at hj; omega)
      | false =>
        obtain ⟨k1, k2, k3, p, p1, p2, p3, p4, p5, p6, p7, k5⟩ := b.kid hc
        obtain ⟨q1, q2, q3, q4, q5⟩ := k5 g kd b1
        exact .sa w.n p seg (b6.trans q1) (by rw [hNn]; exact hc) (by rw [hNn]; exact p2) (by rw [b5]; exact q2) (by rw [b5, hGn]; exact q3) (by rw [b5, hG p p1]; exact q4) (by rw [b5]; exact q5) (by rw [hGn, b2]; show w.now ≤ w.now ∧ w.now ≤ w.now + 30; omega) pr
  · intro r hr
    have hr : r ∈ w.D ++ emitR w.now e1 (w.H h) (w.M (w.H h).addr) L := hr
    rcases List.mem_append.1 hr with k | k
    · exact I.gok r k
    · obtain ⟨g, kd, b1, b2, b3, b4, b5, b6⟩ := emitR_mem L _ _ r k
      rw [b5]; exact stamp_ok b.he (b.Lok g kd b1)
end Go.Proofs.Qxb6500351aGreat
