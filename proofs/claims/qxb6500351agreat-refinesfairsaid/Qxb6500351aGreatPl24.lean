/- THE PLAIN LAW of the whole network, part 7: what changes no connection. No Go in sight. -/
import Derived.Test.Qxb6500351aGreatPl23
set_option linter.unusedVariables false
set_option linter.unusedSimpArgs false
namespace Go.Proofs.Qxb6500351aGreat
open Go.Eng
structure Env (w w' : W) : Prop where
  n : w'.n = w.n
  N : w'.N = w.N
  G : w'.G = w.G
  tk : w'.tk = w.tk
  now : w.now ≤ w'.now
  tkn : ∀ i, i < w.n → w.tk i ≤ w'.now ∧ w'.now ≤ w.tk i + 1
  rowF : ∀ j, j < w.n → ∀ e' c, w'.row j e' c → ∃ e, w.row j e c ∧ Sim e e' ∧ (e'.parent ≠ 0 → e' = e) ∧ (c.x.st = 2 → e' = e) ∧ (e.parent = 0 → e'.parent = 0)
  rowB : ∀ j, j < w.n → ∀ e c, w.row j e c → ∃ e', w'.row j e' c
  at_ : ∀ h, h < 3 → ∀ sd e, (w'.H h).t.at sd = some e → e.kind = 2 → ∃ e0, (w.H h).t.at sd = some e0 ∧ e0.kind = 2
  nsd : ∀ h, (w.H h).t.nextSd ≤ (w'.H h).t.nextSd
  hinv : ∀ h, h < 3 → HInv (w'.H h) (w'.q h) h
  hT : ∀ h, (w'.H h).clock ≤ w'.now ∧ 0 ≤ (w'.H h).p.credit ∧ (w'.H h).p.credit ≤ 24
  hist : Hist (dgs w'.D) w'.T w'.M w'.C
  nxt : ∀ h, h < 3 → (w'.H h).p.nxt_ = w'.M ((h : Int) + 1) % 256
  ra : ∀ h, h < 3 → RA (w'.H h).p (dgs w'.D) (w'.H h).clock
  D : ∀ r, r ∈ w'.D → r ∈ w.D ∨ RecOk w' r
  gok : ∀ r, r ∈ w'.D → r.g.Ok
theorem Inv.env {w w' : W} (I : Inv w) (h : Env w w') : Inv w' := by
  have hmut : ∀ a b, w'.mut a b ↔ w.mut a b := fun a b =>
    ⟨fun m => ⟨by have := m.hi; rw [h.n] at this; exact this, by have := m.hp; rw [h.n] at this; exact this, by rw [← h.N]; exact m.ip, by rw [← h.N]; exact m.pi⟩,
     fun m => ⟨by rw [h.n]; exact m.hi, by rw [h.n]; exact m.hp, by rw [h.N]; exact m.ip, by rw [h.N]; exact m.pi⟩⟩
  have habs : ∀ j, j < w.n → (∀ e c, ¬ w'.row j e c) → ∀ e c, ¬ w.row j e c := fun j hj ha e c hr => by
    obtain ⟨e', hr'⟩ := h.rowB j hj e c hr
    exact ha e' c hr'
  have habs2 : ∀ j, j < w.n → (∀ e c, ¬ w.row j e c) → ∀ e c, ¬ w'.row j e c := fun j hj ha e c hr => by
    obtain ⟨e', hr', _⟩ := h.rowF j hj e c hr
    exact ha e' c hr'
  refine ⟨h.hinv, h.hT, h.hist, h.nxt, h.ra, ?_, ?_, ?_, ?_, ?_, ?_, ?_, ?_, ?_, ?_, ?_, ?_, ?_, ?_, ?_, ?_, ?_, ?_, h.gok⟩
  · intro j hj
    rw [h.n] at hj
    obtain ⟨a, b, c⟩ := I.tkn j hj
    rw [h.tk, h.G]
    exact ⟨(h.tkn j hj).1, (h.tkn j hj).2, c⟩
  · intro j hj; rw [h.n] at hj; rw [h.N]; exact I.hostR j hj
  · intro hh h3 sd e he hk
    obtain ⟨e0, a, b⟩ := h.at_ hh h3 sd e he hk
    obtain ⟨j, j1, j2, j3⟩ := I.ends hh h3 sd e0 a b
    exact ⟨j, by rw [h.n]; exact j1, by rw [h.N]; exact j2, by rw [h.N]; exact j3⟩
  · intro j hj e c hr
    rw [h.n] at hj; rw [h.N]
    obtain ⟨e0, hr0, s, _⟩ := h.rowF j hj e c hr
    have := I.tup j hj e0 c hr0
    exact ⟨s.lp ▸ this.1, s.rh ▸ this.2.1, s.rp ▸ this.2.2⟩
  · intro a b ha hb h1 h2
    rw [h.n] at ha hb; rw [h.N] at h1 h2
    exact I.uniq a b ha hb h1 h2
  · intro j hj
    rw [h.n] at hj
    obtain ⟨a, b⟩ := I.old j hj
    have := h.nsd (w.N j).host.toNat
    refine ⟨by rw [h.N]; exact a, ?_⟩
    unfold W.host at b ⊢
    rw [h.N]; omega
  · intro j hj; rw [h.n] at hj; rw [h.N]; exact I.ports j hj
  · intro j hj e c hr
    rw [h.n] at hj
    obtain ⟨e0, hr0, s, p1, p2, p3⟩ := h.rowF j hj e c hr
    cases I.sta j hj e0 c hr0 with
    | syn cl pe o t pa nc wo z zs => exact .syn (by rw [h.N]; exact cl) (by rw [h.N]; exact pe) (by rw [h.G]; exact o) (by rw [h.tk, h.G]; exact t) (p3 pa) (by rw [h.N]; exact nc) (by rw [h.N]; exact wo) (by rw [h.G]; exact z) (by rw [h.N]; exact zs)
    | srv p cl pe o t pa nx nc wo z zs => exact .srv p (by rw [h.N]; exact cl) (by rw [h.N]; exact pe) (by rw [h.G]; exact o) (by rw [h.tk, h.G]; exact t) (by rw [p2 o.st]; exact pa) (by rw [h.G]; exact nx) (by rw [h.N]; exact nc) (by rw [h.N]; exact wo) (by rw [h.G]; exact z) (by rw [h.N]; exact zs)
    | well p m r o wc wo b => exact .well p ((hmut j p).2 m) (by rw [h.G, h.N]; exact r) (by rw [h.G]; exact o) (by rw [h.N]; exact wc) (by rw [h.N]; exact wo) (fun k => by rw [h.G, h.tk]; exact b k)
    | bad st why av pf b => exact .bad st why av pf (by rw [h.G, h.tk]; exact b)
  · intro j hj ha
    rw [h.n] at hj
    have := I.gone j hj (habs j hj ha)
    have := h.now
    rw [h.G]; omega
  · intro j hj; rw [h.n] at hj; rw [h.G, h.N]; exact I.gh j hj
  · intro j hj hno
    rw [h.n] at hj
    have := I.new j hj (fun p m => hno p ((hmut j p).2 m))
    rw [h.G, h.N]; exact this
  · intro j hj hc
    rw [h.n] at hj; rw [h.N] at hc ⊢; rw [h.G]; exact I.kid j hj hc
  · intro j hj hc
    rw [h.n] at hj ⊢; rw [h.N] at hc ⊢; rw [h.G]; exact I.cli j hj hc
  · intro a b hab hb ht
    rw [h.n] at hb; rw [h.N] at ht
    obtain ⟨q1, q2⟩ := I.ord a b hab hb ht
    exact ⟨habs2 a (by omega) q1, by rw [h.G]; exact q2⟩
  · intro a b m hc j hj hbj ht
    rw [h.n] at hj; rw [h.N] at hc ht ⊢
    exact I.p5 a b ((hmut a b).1 m) hc j hj hbj ht
  · intro a b m
    rw [h.G]; exact I.pair a b ((hmut a b).1 m)
  · intro j hj e c hr hp
    rw [h.n] at hj
    obtain ⟨e0, hr0, s, p1, p2, p3⟩ := h.rowF j hj e c hr
    have := p1 hp
    subst this
    rw [h.N]; exact I.rd j hj e c hr0 hp
  · intro r hr ht
    rcases h.D r hr with h0 | h0
    · have hn := h.now
      have rt : r.t ≤ w.now := by
        have := (I.hist.ok r.dgr (List.mem_map_of_mem h0)).2
        have h2 := (I.hT (r.src - 1).toNat).1
        have e : r.dgr.t = r.t := rfl
        rw [e] at this
        have e2 : w.T r.dgr.src = (w.H (r.src - 1).toNat).clock := rfl
        rw [e2] at this; omega
      refine (I.recs r h0 (by omega)).mono (by rw [h.n]; exact Nat.le_refl _) (fun j _ => by rw [h.N]; exact SameId.refl _) (fun j _ _ => by rw [h.N]) (fun a b m => (hmut a b).2 m) (fun a j ha hp => .inl (by rw [h.N] at hp; exact hp)) (fun a b ha hb => I.peer_lt ha hb) (fun j _ => by rw [h.G]; exact Gh.Le.refl _) (fun j _ => ⟨[], by rw [h.N]; simp, fun _ => rfl⟩) (fun j hj => (I.gh j hj).xn) (fun j B hj hw => ?_) (fun j q hj _ hq hp => ?_) (by omega) (fun j hj => by have := (I.tkn j hj).1; omega)
      · rw [h.tk]
        have e : B + 12 * (w.tk j - w.tk j) = B := by omega
        rw [e]
        refine ⟨by rw [h.G]; exact hw.1, fun e c hr hs => ?_⟩
        obtain ⟨e0, hr0, _⟩ := h.rowF j hj e c hr
        rw [h.G]; exact hw.2 e0 c hr0 hs
      · rw [h.tk]
        have e : q - (w.tk j - w.tk j) = q := by omega
        rw [e]
        obtain ⟨e, c, hr, hq⟩ := hp
        obtain ⟨e', hr'⟩ := h.rowB j hj e c hr
        exact ⟨e', c, hr', hq⟩
    · exact h0
/-! ### rows when a host changes only its packet layer -/
theorem host_row (w w' : W) (hN : w'.N = w.N) (hc : ∀ h, (w'.H h).c = (w.H h).c) (ht : ∀ h, (w'.H h).t = (w.H h).t) (j : Nat) (e : En) (c : Conn) : w'.row j e c ↔ w.row j e c := by
  have h1 : (w'.host j).t = (w.host j).t := by unfold W.host; rw [hN]; exact ht _
  have h2 : (w'.host j).c = (w.host j).c := by unfold W.host; rw [hN]; exact hc _
  constructor
  · intro r; exact ⟨by rw [← h1, ← hN]; exact r.at_, r.kind, by rw [← h2]; exact r.c⟩
  · intro r; exact ⟨by rw [h1, hN]; exact r.at_, r.kind, by rw [h2]; exact r.c⟩
/-- time goes on -/
theorem Inv.time {w : W} (I : Inv w) (h : ∀ i, i < w.n → w.tk i = w.now) : Inv { w with now := w.now + 1 } := by
  refine I.env ⟨rfl, rfl, rfl, rfl, by show w.now ≤ w.now + 1; omega, fun i hi => by have := h i hi; show w.tk i ≤ w.now + 1 ∧ w.now + 1 ≤ w.tk i + 1; omega, fun j _ e c r => ⟨e, (host_row w { w with now := w.now + 1 } rfl (fun _ => rfl) (fun _ => rfl) j e c).1 r, Sim.refl _, fun _ => rfl, fun _ => rfl, id⟩, fun j _ e c r => ⟨e, (host_row w { w with now := w.now + 1 } rfl (fun _ => rfl) (fun _ => rfl) j e c).2 r⟩, fun h _ sd e he hk => ⟨e, he, hk⟩, fun _ => Int.le_refl _, I.hi, fun h => ?_, I.hist, I.nxt, I.ra, fun r hr => .inl hr, I.gok⟩
  obtain ⟨a, b⟩ := I.hT h
  exact ⟨by show (w.H h).clock ≤ w.now + 1; omega, b⟩
/-- a host's packet layer takes a fragment in -/
theorem Inv.pin {w : W} (I : Inv w) {h : Nat} (h3 : h < 3) {p : Ipt} (ok : p.Ok) (ha : p.addr = (w.H h).p.addr) (hn : p.nxt_ = (w.H h).p.nxt_) (hc : p.credit = (w.H h).p.credit) (ra : RA p (dgs w.D) (w.H h).clock) : Inv { w with H := upA w.H h { (w.H h) with p := p } } := by
  have hat : ∀ (P : Hst → Prop) (j : Nat), P { (w.H h) with p := p } → P (w.H j) → P (upA w.H h { (w.H h) with p := p } j) := fun P j a b => by
    by_cases hj : j = h
    · subst hj; rw [upA_at]; exact a
    · rw [upA_ne _ _ hj]; exact b
  have ec : ∀ j, (upA w.H h { (w.H h) with p := p } j).c = (w.H j).c := fun j => by
    by_cases hj : j = h
    · subst hj; rw [upA_at]
    · rw [upA_ne _ _ hj]
  have et : ∀ j, (upA w.H h { (w.H h) with p := p } j).t = (w.H j).t := fun j => by
    by_cases hj : j = h
    · subst hj; rw [upA_at]
    · rw [upA_ne _ _ hj]
  have ek : ∀ j, (upA w.H h { (w.H h) with p := p } j).clock = (w.H j).clock := fun j => by
    by_cases hj : j = h
    · subst hj; rw [upA_at]
    · rw [upA_ne _ _ hj]
  have ep : ∀ j, (upA w.H h { (w.H h) with p := p } j).p.credit = (w.H j).p.credit ∧ (upA w.H h { (w.H h) with p := p } j).p.nxt_ = (w.H j).p.nxt_ := fun j => by
    by_cases hj : j = h
    · subst hj; rw [upA_at]; exact ⟨hc, hn⟩
    · rw [upA_ne _ _ hj]; exact ⟨rfl, rfl⟩
  refine I.env ⟨rfl, rfl, rfl, rfl, Int.le_refl _, fun i hi => by have := I.tkn i hi; exact ⟨this.1, this.2.1⟩, fun j _ e c r => ⟨e, (host_row w { w with H := upA w.H h { (w.H h) with p := p } } rfl ec et j e c).1 r, Sim.refl _, fun _ => rfl, fun _ => rfl, id⟩, fun j _ e c r => ⟨e, (host_row w { w with H := upA w.H h { (w.H h) with p := p } } rfl ec et j e c).2 r⟩, fun h' _ sd e he hk => ⟨e, by have := et h'; show (w.H h').t.at sd = some e; rw [← this]; exact he, hk⟩, fun h' => by show _ ≤ (upA w.H h _ h').t.nextSd; rw [et]; exact Int.le_refl _, fun h' h3' => ?_, fun h' => ?_, ?_, fun h' h3' => ?_, fun h' h3' => ?_, fun r hr => .inl hr, I.gok⟩
  · by_cases hj : h' = h
    · subst hj
      show HInv (upA w.H h' _ h') (w.q h') h'
      rw [upA_at]
      have := I.hi h' h3'
      exact ⟨this.addr, ok, by show p.addr = (w.H h').addr; rw [ha]; exact this.pa, this.c, this.good, this.k, this.tok, this.idle⟩
    · show HInv (upA w.H h _ h') (w.q h') h'
      rw [upA_ne _ _ hj]; exact I.hi h' h3'
  · show (upA w.H h _ h').clock ≤ w.now ∧ 0 ≤ (upA w.H h _ h').p.credit ∧ (upA w.H h _ h').p.credit ≤ 24
    rw [ek, (ep h').1]; exact I.hT h'
  · have e1 : W.T { w with H := upA w.H h { (w.H h) with p := p } } = w.T := by funext s; exact ek _
    have e2 : W.C { w with H := upA w.H h { (w.H h) with p := p } } = w.C := by funext s; exact (ep _).1
    rw [e1, e2]; exact I.hist
  · show (upA w.H h _ h').p.nxt_ = _
    rw [(ep h').2]; exact I.nxt h' h3'
  · show RA (upA w.H h _ h').p _ (upA w.H h _ h').clock
    rw [ek]
    by_cases hj : h' = h
    · subst hj; rw [upA_at]; exact ra
    · rw [upA_ne _ _ hj]; exact I.ra h' h3'
/-- the world behind an emission that belongs to no end -/
def W.say (w : W) (h : Nat) (e : En) (L : List (Seg × Kd)) : W :=
  { w with
    H := upA w.H h ((w.H h).emitH e (L.map Prod.fst))
    D := w.D ++ emitR w.now e (w.H h) (w.M (w.H h).addr) L
    M := fun s => if s = (w.H h).addr then w.M s + (emitR w.now e (w.H h) (w.M (w.H h).addr) L).length else w.M s }
/-- the histories behind an emission of host h -/
theorem Inv.hist_emit {w : W} (I : Inv w) {h : Nat} (h3 : h < 3) {e : En} (he : e.Ok) (clk : (w.H h).clock = w.now) {L : List (Seg × Kd)} (hL : ∀ g k, (g, k) ∈ L → g.Ok) {w' : W} (hD : w'.D = w.D ++ emitR w.now e (w.H h) (w.M (w.H h).addr) L) (hM : w'.M = fun s => if s = (w.H h).addr then w.M s + (emitR w.now e (w.H h) (w.M (w.H h).addr) L).length else w.M s)
    (hp : (w'.H h).p = ((w.H h).emitH e (L.map Prod.fst)).p) (hk : (w'.H h).clock = (w.H h).clock) (ha : (w'.H h).addr = (w.H h).addr) (hn : ∀ h', h' ≠ h → w'.H h' = w.H h') (hnow : w'.now = w.now) :
    (∀ h', (w'.H h').clock ≤ w'.now ∧ 0 ≤ (w'.H h').p.credit ∧ (w'.H h').p.credit ≤ 24) ∧ Hist (dgs w'.D) w'.T w'.M w'.C ∧ (∀ h', h' < 3 → (w'.H h').p.nxt_ = w'.M ((h' : Int) + 1) % 256) ∧ (∀ h', h' < 3 → RA (w'.H h').p (dgs w'.D) (w'.H h').clock) ∧ (w'.H h).p.Ok ∧ (w'.H h).p.addr = (w'.H h).addr := by
  have HI := I.hi h h3
  have hcr := (I.hT h).2
  obtain ⟨ep, ec, el⟩ := emitH_p (now := w.now) (e := e) L (w.H h) (w.M (w.H h).addr) hcr.1
  have haddr := HI.addr
  have nxt_ok : (w.H h).p.nxt_ = w.M (w.H h).addr % 256 := by rw [haddr]; exact I.nxt h h3
  have es : ∀ s : Int, (s - 1).toNat = h → (s = (w.H h).addr ∨ s < 1) := fun s hs => by omega
  refine ⟨fun h' => ?_, ?_, fun h' h3' => ?_, fun h' h3' => ?_, ?_, ?_⟩
  · by_cases hj : h' = h
    · subst hj; rw [hp, hk, hnow]
      have := ep.credit
      exact ⟨by rw [clk]; exact Int.le_refl _, ec, by omega⟩
    · rw [hn h' hj, hnow]; exact I.hT h'
  · have hT0 : w.T (w.H h).addr = w.now := by
      unfold W.T; rw [haddr]
      have : ((h : Int) + 1 - 1).toNat = h := by omega
      rw [this]; exact clk
    have hC0 : (w.H h).p.credit = w.C (w.H h).addr := by
      unfold W.C; rw [haddr]
      have : ((h : Int) + 1 - 1).toNat = h := by omega
      rw [this]
    have h0 := Hist.emit (now := w.now) he L (w.H h) w.D w.T w.M w.C I.hist hT0 hC0 (by omega) hL
    have hTT : w'.T = w.T := by
      funext s
      unfold W.T
      by_cases hs : (s - 1).toNat = h
      · rw [hs, hk]
      · rw [hn _ hs]
    rw [hTT, hD, hM]
    refine ⟨h0.ok, h0.uniq, h0.pace, fun d hd => ?_, fun s => ?_, h0.m⟩
    · obtain ⟨a, b⟩ := h0.cur d hd
      refine ⟨a, ?_⟩
      have hC : w'.C d.src ≤ if d.src = (w.H h).addr then w.C d.src - (emitR w.now e (w.H h) (w.M (w.H h).addr) L).length else w.C d.src := by
        unfold W.C
        by_cases hs : (d.src - 1).toNat = h
        · rw [hs, hp, ep.credit]
          split <;> omega
        · rw [hn _ hs, if_neg]
          · exact Int.le_refl _
          · intro k; apply hs; rw [k, haddr]; omega
      omega
    · unfold W.C
      by_cases hs : (s - 1).toNat = h
      · rw [hs, hp]
        have := ep.credit
        exact ⟨ec, by omega⟩
      · rw [hn _ hs]; exact (I.hT _).2
  · by_cases hj : h' = h
    · subst hj; rw [hp, hM]
      dsimp only
      rw [if_pos haddr.symm, ← haddr]
      exact ep.nxt _ nxt_ok
    · rw [hn h' hj, hM]
      dsimp only
      rw [if_neg (by rw [haddr]; omega)]
      exact I.nxt h' h3'
  · rw [hD]
    have mono : ∀ (l : List Rc) (q : Ipt) (t : Int), RA q (dgs w.D) t → RA q (dgs (w.D ++ l)) t := fun l q t ra k hk hu => by
      obtain ⟨d, d1, d2⟩ := ra k hk hu
      refine ⟨d, ?_, d2⟩
      unfold dgs; rw [List.map_append]; exact List.mem_append_left _ d1
    by_cases hj : h' = h
    · subst hj; rw [hp, hk]
      have := mono (emitR w.now e (w.H h') (w.M (w.H h').addr) L) _ _ (I.ra _ h3')
      intro k hk hu
      rw [ep.tab] at hu ⊢
      rw [ep.addr]
      exact this k hk hu
    · rw [hn h' hj]; exact mono _ _ _ (I.ra h' h3')
  · rw [hp]
    refine ⟨by rw [ep.addr]; exact HI.p.addr, ?_, ⟨ec, by rw [ep.credit]; have := HI.p.credit; omega⟩, fun k => by rw [ep.tab]; exact HI.p.slot k⟩
    rw [ep.nxt _ nxt_ok]; omega
  · rw [hp, ha, ep.addr]; exact HI.pa
/-- A REFUSAL goes out -/
theorem Inv.say {w : W} (I : Inv w) {h : Nat} (h3 : h < 3) {e0 : En} (he : e0.Ok) (clk : (w.H h).clock = w.now) {L : List (Seg × Kd)} (hL : ∀ g k, (g, k) ∈ L → g.Ok ∧ k = .rst ∧ g.flags / 8 = 1) : Inv (w.say h e0 L) := by
  have hHh : (w.say h e0 L).H h = (w.H h).emitH e0 (L.map Prod.fst) := upA_at ..
  have hHn : ∀ j, j ≠ h → (w.say h e0 L).H j = w.H j := fun j hj => upA_ne _ _ hj
  have ec : ∀ j, ((w.say h e0 L).H j).c = (w.H j).c := fun j => by
    by_cases hj : j = h
    · subst hj; rw [hHh]; exact Hst.emitH_c _ _ _
    · rw [hHn j hj]
  have et : ∀ j, ((w.say h e0 L).H j).t = (w.H j).t := fun j => by
    by_cases hj : j = h
    · subst hj; rw [hHh]; exact Hst.emitH_t _ _ _
    · rw [hHn j hj]
  obtain ⟨a1, a2, a3, a4, a5, a6⟩ := I.hist_emit h3 he clk (fun g k hg => (hL g k hg).1) (w' := w.say h e0 L) rfl rfl (by rw [hHh]) (by rw [hHh]; exact Hst.emitH_clock _ _ _) (by rw [hHh]; exact Hst.emitH_addr _ _ _) hHn rfl
  refine I.env ⟨rfl, rfl, rfl, rfl, Int.le_refl _, fun i hi => by have := I.tkn i hi; exact ⟨this.1, this.2.1⟩, fun j _ e c r => ⟨e, (host_row w (w.say h e0 L) rfl ec et j e c).1 r, Sim.refl _, fun _ => rfl, fun _ => rfl, id⟩, fun j _ e c r => ⟨e, (host_row w (w.say h e0 L) rfl ec et j e c).2 r⟩, fun h' _ sd e he hk => ⟨e, by rw [← et h']; exact he, hk⟩, fun h' => by rw [et]; exact Int.le_refl _, fun h' h3' => ?_, a1, a2, a3, a4, fun r hr => ?_, fun r hr => ?_⟩
  · have HI := I.hi h' h3'
    have hq : (w.say h e0 L).q h' = w.q h' := rfl
    rw [hq]
    by_cases hj : h' = h
    · subst hj
      exact ⟨by rw [hHh, Hst.emitH_addr]; exact HI.addr, a5, a6, fun k => by rw [ec]; exact HI.c k, by rw [et]; exact HI.good, by rw [et]; exact HI.k, by rw [et]; exact HI.tok, by rw [et, ec]; exact HI.idle⟩
    · rw [hHn h' hj]; exact HI
  · have hr : r ∈ w.D ++ emitR w.now e0 (w.H h) (w.M (w.H h).addr) L := hr
    rcases List.mem_append.1 hr with k | k
    · exact .inl k
    · right
      obtain ⟨g, kd, b1, b2, b3, b4, b5, b6⟩ := emitR_mem L _ _ r k
      obtain ⟨c1, c2, c3⟩ := hL g kd b1
      exact .rst (b6.trans c2) (by rw [b5]; exact c3)
  · have hr : r ∈ w.D ++ emitR w.now e0 (w.H h) (w.M (w.H h).addr) L := hr
    rcases List.mem_append.1 hr with k | k
    · exact I.gok r k
    · obtain ⟨g, kd, b1, b2, b3, b4, b5, b6⟩ := emitR_mem L _ _ r k
      rw [b5]; exact stamp_ok he (hL g kd b1).1
end Go.Proofs.Qxb6500351aGreat
