/- THE PLAIN LAW of the whole network, part 3: one connection changes and puts out segments. No Go in sight. -/
import Derived.Test.Qxb6500351aGreatPl19
set_option linter.unusedVariables false
set_option linter.unusedSimpArgs false
namespace Go.Proofs.Qxb6500351aGreat
open Go.Eng
def W.put (w : W) (i : Nat) (e : En) (c1 : Conn) (t' : Tb) (q' : Int → List Int) (L : List (Seg × Kd)) (g1 : Gh) (x1 : Ned) : W :=
  { w with
    H := upA w.H (w.N i).host.toNat { (w.host i).emitH e (L.map Prod.fst) with c := upA (w.host i).c e.slot.toNat c1, t := t' }
    q := upA w.q (w.N i).host.toNat q'
    N := upA w.N i x1
    G := upA w.G i g1
    tk := upA w.tk i w.now
    D := w.D ++ emitR w.now e (w.host i) (w.M (w.host i).addr) L
    M := fun s => if s = (w.host i).addr then w.M s + (emitR w.now e (w.host i) (w.M (w.host i).addr) L).length else w.M s }
theorem toNat_inj {a b : Int} (h : a.toNat = b.toNat) (ha : 0 ≤ a) (hb : 0 ≤ b) : a = b := by omega
structure Put (w : W) (i : Nat) (e0 e1 : En) (c0 c1 : Conn) (t' : Tb) (q' : Int → List Int) (L : List (Seg × Kd)) (g1 : Gh) (x1 : Ned) : Prop where
  hi : i < w.n
  row : w.row i e0 c0
  clk : (w.host i).clock = w.now
  c1ok : c1.Ok
  Lok : ∀ g k, (g, k) ∈ L → g.Ok
  st0 : c1.x.st ≠ 0
  good : t'.Good q'
  K : t'.K
  tok : t'.Ok
  at_ : ∀ x, t'.at x = if x = (w.N i).sd then some e1 else (w.host i).t.at x
  sim : Sim e0 e1
  nsd : t'.nextSd = (w.host i).t.nextSd
  id : SameId (w.N i) x1
  pe : x1.peer = (w.N i).peer ∨ ∃ j, Opens w i j x1.peer g1
  le : (w.G i).Le g1
  S : ∃ l, x1.sent = (w.N i).sent ++ l ∧ ((w.G i).f = true → l = [])
  cl : (w.N i).closed = true → x1.closed = true
  sta : Sta (w.put i e0 c1 t' q' L g1 x1) i e1 c1
  gh : GhOk g1 x1
  new : (∀ p, ¬ w.mut i p) → g1 = w.G i ∧ x1.sent = (w.N i).sent
  pair : ∀ p, w.mut i p → PairOk g1 (w.G p) ∧ PairOk (w.G p) g1
  rd : e1.parent ≠ 0 → e1.ready = x1.wasOpen
  win : c1.x.st ≠ 4 → c0.x.st ≠ 4 ∧ g1.X + c1.x.credit ≤ (w.G i).X + c0.x.credit + 12 * (w.now - w.tk i)
  win2 : g1.X ≤ (w.G i).X + 12 * (w.now - w.tk i) ∨ (c0.x.st ≠ 4 ∧ g1.X ≤ (w.G i).X + c0.x.credit + 12 * (w.now - w.tk i))
  pres : c1.x.st = 4 → c1.x.quiet = 10 ∨ (c0.x.st = 4 ∧ c0.x.quiet ≤ c1.x.quiet + (w.now - w.tk i))
  D : ∀ g k, (g, k) ∈ L → ∀ r : Rc, r.t = w.now → r.src = (w.N i).host + 1 → r.dst = (w.N i).rHost → r.g = stamp e0 g → r.k = k → RecOk (w.put i e0 c1 t' q' L g1 x1) r
theorem put_row {w : W} {i : Nat} {e0 e1 : En} {c0 c1 : Conn} {t' : Tb} {q' : Int → List Int} {L : List (Seg × Kd)} {g1 : Gh} {x1 : Ned} (I : Inv w) (hi : i < w.n) (row : w.row i e0 c0) (at_ : ∀ x, t'.at x = if x = (w.N i).sd then some e1 else (w.host i).t.at x) (sim : Sim e0 e1) (id : SameId (w.N i) x1) :
    (w.put i e0 c1 t' q' L g1 x1).row i e1 c1 ∧ ∀ j, j < w.n → j ≠ i → ∀ e c, (w.put i e0 c1 t' q' L g1 x1).row j e c ↔ w.row j e c := by
  have hN : ∀ j, ((w.put i e0 c1 t' q' L g1 x1).N j).host = (w.N j).host ∧ ((w.put i e0 c1 t' q' L g1 x1).N j).sd = (w.N j).sd := fun j => by
    show (upA w.N i x1 j).host = _ ∧ (upA w.N i x1 j).sd = _
    by_cases hj : j = i
    · subst hj; rw [upA_at]; exact ⟨id.host, id.sd⟩
    · rw [upA_ne _ _ hj]; exact ⟨rfl, rfl⟩
  have hH : ∀ j, (w.put i e0 c1 t' q' L g1 x1).host j = upA w.H (w.N i).host.toNat { (w.host i).emitH e0 (L.map Prod.fst) with c := upA (w.host i).c e0.slot.toNat c1, t := t' } (w.N j).host.toNat := fun j => by
    unfold W.host; rw [(hN j).1]; rfl
  have hHi := hH i
  rw [upA_at] at hHi
  constructor
  · refine ⟨?_, by rw [← sim.kind]; exact row.kind, ?_⟩
    · rw [hHi, (hN i).2]
      show t'.at _ = _
      rw [at_, if_pos rfl]
    · rw [hHi, ← sim.slot]
      show c1 = upA _ _ c1 _
      rw [upA_at]
  · intro j hj hji e c
    by_cases hh : (w.N j).host.toNat = (w.N i).host.toNat
    · have h0 : (w.N j).host = (w.N i).host := toNat_inj hh (I.hostR j hj).1 (I.hostR i hi).1
      have hsd : (w.N j).sd ≠ (w.N i).sd := fun h => hji (I.uniq j i hj hi h0 h)
      have hHj := hH j
      rw [hh, upA_at] at hHj
      have hhost : w.host j = w.host i := by unfold W.host; rw [h0]
      have e1 : ((w.put i e0 c1 t' q' L g1 x1).host j).t.at ((w.put i e0 c1 t' q' L g1 x1).N j).sd = (w.host j).t.at (w.N j).sd := by
        rw [hHj, (hN j).2, hhost]
        show t'.at _ = _
        rw [at_, if_neg hsd]
      have e2 : ∀ f, (w.host j).t.at (w.N j).sd = some f → f.kind = 2 → ((w.put i e0 c1 t' q' L g1 x1).host j).c f.slot.toNat = (w.host j).c f.slot.toNat := fun f hf hk => by
        rw [hHj, hhost]
        show upA (w.host i).c _ c1 f.slot.toNat = _
        rw [upA_ne]
        intro hs
        rw [hhost] at hf
        have g := (I.hi (w.N i).host.toNat (by have := I.hostR i hi; omega)).good
        obtain ⟨a, a1, _, a3, a4⟩ := Tb.at_row hf
        obtain ⟨b, b1, _, b3, b4⟩ := Tb.at_row row.at_
        have c1 := (g.kindC a1 a3 (by omega)).slot
        have c2 := (g.kindC b1 b3 (by rw [row.kind]; decide)).slot
        have := g.r.slots a b f e0 a1 b1 a3 b3 hk row.kind (by omega)
        subst this
        rw [a3] at b3; cases b3
        exact hsd (a4.symm.trans b4)
      constructor
      · intro r
        have h1 := r.at_; rw [e1] at h1
        exact ⟨h1, r.kind, by rw [r.c, e2 e h1 r.kind]⟩
      · intro r
        exact ⟨by rw [e1]; exact r.at_, r.kind, by rw [r.c, e2 e r.at_ r.kind]⟩
    · have hHj := hH j
      rw [upA_ne _ _ hh] at hHj
      have hHj : (w.put i e0 c1 t' q' L g1 x1).host j = w.host j := hHj
      constructor
      · intro r
        exact ⟨by have := r.at_; rw [hHj, (hN j).2] at this; exact this, r.kind, by rw [r.c, hHj]⟩
      · intro r
        exact ⟨by rw [hHj, (hN j).2]; exact r.at_, r.kind, by rw [r.c, hHj]⟩
theorem Inv.put {w : W} (I : Inv w) {i : Nat} {e0 e1 : En} {c0 c1 : Conn} {t' : Tb} {q' : Int → List Int} {L : List (Seg × Kd)} {g1 : Gh} {x1 : Ned} (p : Put w i e0 e1 c0 c1 t' q' L g1 x1) : Inv (w.put i e0 c1 t' q' L g1 x1) := by
  have hi := p.hi
  obtain ⟨r1, r2⟩ := put_row (c1 := c1) (L := L) (g1 := g1) (q' := q') I hi p.row p.at_ p.sim p.id
  have hh3 : (w.N i).host.toNat < 3 := by have := I.hostR i hi; omega
  have HI := I.hi _ hh3
  have hHe : w.H (w.N i).host.toNat = w.host i := rfl
  rw [hHe] at HI
  have hcr := (I.hT (w.N i).host.toNat).2
  rw [hHe] at hcr
  obtain ⟨ep, ec, el⟩ := emitH_p (now := w.now) (e := e0) L (w.host i) (w.M (w.host i).addr) hcr.1
  have haddr : (w.host i).addr = (w.N i).host + 1 := by have := HI.addr; have := I.hostR i hi; omega
  have he0 : e0.Ok := by
    have := Tb.get_ok HI.tok (w.N i).sd
    rw [Tb.get_at, p.row.at_] at this; exact this
  have ec2 := Hst.emitH_c e0 (L.map Prod.fst) (w.host i)
  have ea2 := Hst.emitH_addr e0 (L.map Prod.fst) (w.host i)
  have eck := Hst.emitH_clock e0 (L.map Prod.fst) (w.host i)
  -- the host behind
  have hHi : (w.put i e0 c1 t' q' L g1 x1).H (w.N i).host.toNat = { (w.host i).emitH e0 (L.map Prod.fst) with c := upA (w.host i).c e0.slot.toNat c1, t := t' } := upA_at ..
  have hHn : ∀ h, h ≠ (w.N i).host.toNat → (w.put i e0 c1 t' q' L g1 x1).H h = w.H h := fun h hne => upA_ne _ _ hne
  have slot0 := (HI.good.kindC (Tb.at_row p.row.at_).choose_spec.1 (Tb.at_row p.row.at_).choose_spec.2.2.1 (by rw [p.row.kind]; decide)).slot
  have nxt_ok : (w.host i).p.nxt_ = w.M (w.host i).addr % 256 := by
    have := I.nxt _ hh3
    rw [hHe] at this
    rw [this]
    have e : (((w.N i).host.toNat : Nat) : Int) + 1 = (w.host i).addr := HI.addr.symm
    rw [e]
  have hist' : Hist (dgs (w.put i e0 c1 t' q' L g1 x1).D) (w.put i e0 c1 t' q' L g1 x1).T (w.put i e0 c1 t' q' L g1 x1).M (w.put i e0 c1 t' q' L g1 x1).C := by
    have hT0 : w.T (w.host i).addr = w.now := by
      unfold W.T; rw [haddr]
      have : ((w.N i).host + 1 - 1).toNat = (w.N i).host.toNat := by congr 1; omega
      rw [this]; exact p.clk
    have hC0 : (w.host i).p.credit = w.C (w.host i).addr := by
      unfold W.C; rw [haddr]
      have : ((w.N i).host + 1 - 1).toNat = (w.N i).host.toNat := by congr 1; omega
      rw [this]; rfl
    have h0 := Hist.emit (now := w.now) he0 L (w.host i) w.D w.T w.M w.C I.hist hT0 hC0 (by have := I.hostR i hi; omega) p.Lok
    -- the clocks and credits by address: addresses that name host i are its own address, or name none
    have hTT : (w.put i e0 c1 t' q' L g1 x1).T = w.T := by
      funext s
      unfold W.T
      by_cases hs : (s - 1).toNat = (w.N i).host.toNat
      · rw [hs, hHi]; exact eck
      · rw [hHn _ hs]
    rw [hTT]
    -- credits: addresses below 1 share host 0's; no datagram bears them
    refine ⟨h0.ok, h0.uniq, h0.pace, fun d hd => ?_, fun s => ?_, h0.m⟩
    · obtain ⟨a, b⟩ := h0.cur d hd
      refine ⟨a, ?_⟩
      have hC : (w.put i e0 c1 t' q' L g1 x1).C d.src ≤ if d.src = (w.host i).addr then w.C d.src - (emitR w.now e0 (w.host i) (w.M (w.host i).addr) L).length else w.C d.src := by
        unfold W.C
        by_cases hs : (d.src - 1).toNat = (w.N i).host.toNat
        · rw [hs, hHi]
          show ((w.host i).emitH e0 (L.map Prod.fst)).p.credit ≤ _
          rw [ep.credit]
          show (w.H (w.N i).host.toNat).p.credit - _ ≤ _
          split <;> omega
        · rw [hHn _ hs, if_neg]
          · exact Int.le_refl _
          · intro h; apply hs; rw [h, haddr]; congr 1; omega
      have b' : (w.put i e0 c1 t' q' L g1 x1).M d.src + (if d.src = (w.host i).addr then w.C d.src - (emitR w.now e0 (w.host i) (w.M (w.host i).addr) L).length else w.C d.src) ≤ d.m + 24 * (w.T d.src - d.t + 1) := b
      omega
    · unfold W.C
      by_cases hs : (s - 1).toNat = (w.N i).host.toNat
      · rw [hs, hHi]
        show 0 ≤ ((w.host i).emitH e0 (L.map Prod.fst)).p.credit ∧ _
        have := ep.credit
        exact ⟨ec, by show ((w.host i).emitH e0 (L.map Prod.fst)).p.credit ≤ 24; omega⟩
      · rw [hHn _ hs]; exact (I.hT _).2
  refine I.chg (i := i) (e1 := e1) (c1 := c1) ⟨hi, rfl, rfl, fun j hj => upA_ne _ _ hj, ?_, ?_, fun j hj => upA_ne _ _ hj, ?_, ?_, ?_, fun j hj => upA_ne _ _ hj, upA_at .., ⟨e0, c0, p.row⟩, r2, r1, ?_, ?_, ?_, ?_, ?_, hist', ?_, ?_, p.sta, ?_, ?_, ?_, ?_, ?_, ?_, ?_, ?_⟩
  · show SameId _ (upA w.N i x1 i); rw [upA_at]; exact p.id
  · show (upA w.N i x1 i).peer = _ ∨ ∃ j, Opens w i j (upA w.N i x1 i).peer (upA w.G i g1 i); rw [upA_at, upA_at]; exact p.pe
  · show Gh.Le _ (upA w.G i g1 i); rw [upA_at]; exact p.le
  · show ∃ l, (upA w.N i x1 i).sent = _ ∧ _; rw [upA_at]; exact p.S
  · show _ → (upA w.N i x1 i).closed = true; rw [upA_at]; exact p.cl
  · have := I.tup i hi e0 c0 p.row
    exact ⟨p.sim.lp ▸ this.1, p.sim.rh ▸ this.2.1, p.sim.rp ▸ this.2.2⟩
  · intro h h3 sd e he hk
    by_cases hh : h = (w.N i).host.toNat
    · subst hh
      rw [hHi] at he
      have he : t'.at sd = some e := he
      rw [p.at_] at he
      split at he
      · rename_i hs; subst hs
        exact ⟨e0, p.row.at_, p.row.kind⟩
      · exact ⟨e, he, hk⟩
    · rw [hHn h hh] at he; exact ⟨e, he, hk⟩
  · intro h
    by_cases hh : h = (w.N i).host.toNat
    · subst hh; rw [hHi]
      show _ ≤ t'.nextSd
      rw [p.nsd]; exact Int.le_refl _
    · rw [hHn h hh]; exact Int.le_refl _
  · intro h h3
    by_cases hh : h = (w.N i).host.toNat
    · subst hh
      have hq : (w.put i e0 c1 t' q' L g1 x1).q (w.N i).host.toNat = q' := upA_at ..
      rw [hHi, hq]
      have hemit : ((w.host i).emitH e0 (L.map Prod.fst)).p.Ok := by
        refine ⟨by rw [ep.addr]; exact HI.p.addr, ?_, ⟨ec, by rw [ep.credit]; have := HI.p.credit; omega⟩, fun k => by rw [ep.tab]; exact HI.p.slot k⟩
        rw [ep.nxt _ nxt_ok]; omega
      refine ⟨ea2.trans HI.addr, hemit, ?_, fun k => ?_, p.good, p.K, p.tok, fun s s4 hs => ?_⟩
      · show ((w.host i).emitH e0 (L.map Prod.fst)).p.addr = ((w.host i).emitH e0 (L.map Prod.fst)).addr
        rw [ep.addr, ea2]; exact HI.pa
      · show (upA (w.host i).c e0.slot.toNat c1 k).Ok
        by_cases hk : k = e0.slot.toNat
        · subst hk; rw [upA_at]; exact p.c1ok
        · rw [upA_ne _ _ hk]; exact HI.c k
      · show (upA (w.host i).c e0.slot.toNat c1 s).x.st = 0
        have hse : s ≠ e0.slot.toNat := fun h => by
          refine hs (w.N i).sd e1 ?_ (p.sim.kind ▸ p.row.kind) (by rw [← p.sim.slot]; omega)
          show t'.at _ = _
          rw [p.at_, if_pos rfl]
        rw [upA_ne _ _ hse]
        refine HI.idle s s4 (fun sd e he hk => ?_)
        by_cases hsd : sd = (w.N i).sd
        · subst hsd
          rw [p.row.at_] at he; cases he
          intro h; exact hse (by omega)
        · refine hs sd e ?_ hk
          show t'.at _ = _
          rw [p.at_, if_neg hsd]; exact he
    · rw [hHn h hh]
      have hq : (w.put i e0 c1 t' q' L g1 x1).q h = w.q h := upA_ne _ _ hh
      rw [hq]; exact I.hi h h3
  · intro h
    by_cases hh : h = (w.N i).host.toNat
    · subst hh; rw [hHi]
      refine ⟨?_, ec, ?_⟩
      · show ((w.host i).emitH e0 (L.map Prod.fst)).clock ≤ w.now
        rw [eck, p.clk]; exact Int.le_refl _
      · show ((w.host i).emitH e0 (L.map Prod.fst)).p.credit ≤ 24
        have := ep.credit; omega
    · rw [hHn h hh]; exact I.hT h
  · intro h h3
    by_cases hh : h = (w.N i).host.toNat
    · subst hh; rw [hHi]
      show ((w.host i).emitH e0 (L.map Prod.fst)).p.nxt_ = (if _ = (w.host i).addr then _ else _) % 256
      have e : (((w.N i).host.toNat : Nat) : Int) + 1 = (w.host i).addr := HI.addr.symm
      rw [e, if_pos rfl]
      exact ep.nxt _ nxt_ok
    · rw [hHn h hh]
      show _ = (if _ = (w.host i).addr then _ else _) % 256
      rw [if_neg]
      · exact I.nxt h h3
      · intro hc; have := HI.addr; omega
  · intro h h3
    have mono : ∀ (l : List Rc) (q : Ipt) (t : Int), RA q (dgs w.D) t → RA q (dgs (w.D ++ l)) t := fun l q t ra k hk hu => by
      obtain ⟨d, d1, d2⟩ := ra k hk hu
      refine ⟨d, ?_, d2⟩
      unfold dgs; rw [List.map_append]; exact List.mem_append_left _ d1
    by_cases hh : h = (w.N i).host.toNat
    · subst hh; rw [hHi]
      show RA ((w.host i).emitH e0 (L.map Prod.fst)).p _ ((w.host i).emitH e0 (L.map Prod.fst)).clock
      rw [eck]
      have := mono (emitR w.now e0 (w.host i) (w.M (w.host i).addr) L) _ _ (I.ra _ hh3)
      intro k hk hu
      rw [ep.tab] at hu ⊢
      rw [ep.addr]
      exact this k hk hu
    · rw [hHn h hh]; exact mono _ _ _ (I.ra h h3)
  · show GhOk (upA w.G i g1 i) (upA w.N i x1 i); rw [upA_at, upA_at]; exact p.gh
  · show _ → upA w.G i g1 i = _ ∧ (upA w.N i x1 i).sent = _; rw [upA_at, upA_at]; exact p.new
  · show ∀ j, w.mut i j → PairOk (upA w.G i g1 i) _ ∧ PairOk _ (upA w.G i g1 i); rw [upA_at]; exact p.pair
  · show _ → _ = (upA w.N i x1 i).wasOpen; rw [upA_at]; exact p.rd
  · rintro B ⟨b1, b2⟩
    have hg : (w.put i e0 c1 t' q' L g1 x1).G i = g1 := upA_at ..
    refine ⟨?_, fun e c hr hs => ?_⟩
    · rw [hg]
      rcases p.win2 with k | ⟨k1, k2⟩
      · omega
      · have := b2 e0 c0 p.row k1; omega
    · obtain ⟨q1, q2⟩ := hr.inj r1
      rw [q2] at hs ⊢
      rw [hg]
      obtain ⟨k1, k2⟩ := p.win hs
      have := b2 e0 c0 p.row k1; omega
  · rintro q hq ⟨e, c, hr, hs⟩
    obtain ⟨q1, q2⟩ := hr.inj p.row
    refine ⟨e1, c1, r1, fun h4 => ?_⟩
    rw [q2] at hs
    rcases p.pres h4 with k | ⟨k1, k2⟩
    · omega
    · have := hs k1; omega
  · intro r hr
    have hr : r ∈ w.D ++ emitR w.now e0 (w.host i) (w.M (w.host i).addr) L := hr
    rcases List.mem_append.1 hr with h | h
    · exact .inl h
    · right
      obtain ⟨g, k, a1, a2, a3, a4, a5, a6⟩ := emitR_mem L _ _ r h
      refine p.D g k a1 r a2 (a3.trans haddr) ?_ a5 a6
      rw [a4]; exact (I.tup i hi e0 c0 p.row).2.1
  · intro r hr
    have hr : r ∈ w.D ++ emitR w.now e0 (w.host i) (w.M (w.host i).addr) L := hr
    rcases List.mem_append.1 hr with h | h
    · exact I.gok r h
    · obtain ⟨g, k, a1, a2, a3, a4, a5, a6⟩ := emitR_mem L _ _ r h
      rw [a5]; exact stamp_ok he0 (p.Lok g k a1)
end Go.Proofs.Qxb6500351aGreat
