/- THE PLAIN LAW of the whole network, part 12: a host's whole tick. No Go in sight. -/
import Derived.Test.Qxb6500351aGreatPl28
set_option linter.unusedVariables false
set_option linter.unusedSimpArgs false
namespace Go.Proofs.Qxb6500351aGreat
open Go.Eng
/-- the clock and the packet layer of host h tick -/
theorem Inv.tick0 {w : W} (I : Inv w) {h : Nat} (h3 : h < 3) (clk : (w.H h).clock + 1 = w.now) : Inv { w with H := upA w.H h (w.H h).tick0 } ∧ (w.H h).tick0.p.Ok := by
  have HI := I.hi h h3
  have pk : (w.H h).tick0.p.Ok := RA.ok_tick HI.p (I.ra h h3)
  have hHh : (upA w.H h (w.H h).tick0) h = (w.H h).tick0 := upA_at ..
  have ec : ∀ j, (upA w.H h (w.H h).tick0 j).c = (w.H j).c := fun j => by
    by_cases hj : j = h
    · subst hj; rw [upA_at]; rfl
    · rw [upA_ne _ _ hj]
  have et : ∀ j, (upA w.H h (w.H h).tick0 j).t = (w.H j).t := fun j => by
    by_cases hj : j = h
    · subst hj; rw [upA_at]; rfl
    · rw [upA_ne _ _ hj]
  refine ⟨I.env ⟨rfl, rfl, rfl, rfl, Int.le_refl _, fun i hi => by have := I.tkn i hi; exact ⟨this.1, this.2.1⟩, fun j _ e c r => ⟨e, (host_row w { w with H := upA w.H h (w.H h).tick0 } rfl ec et j e c).1 r, Sim.refl _, fun _ => rfl, fun _ => rfl, id⟩, fun j _ e c r => ⟨e, (host_row w { w with H := upA w.H h (w.H h).tick0 } rfl ec et j e c).2 r⟩, fun h' _ sd e he hk => ⟨e, by have := et h'; show (w.H h').t.at sd = some e; rw [← this]; exact he, hk⟩, fun h' => by show _ ≤ (upA w.H h _ h').t.nextSd; rw [et]; exact Int.le_refl _, fun h' h3' => ?_, fun h' => ?_, ?_, fun h' h3' => ?_, fun h' h3' => ?_, fun r hr => .inl hr, I.gok⟩, pk⟩
  · show HInv (upA w.H h _ h') (w.q h') h'
    by_cases hj : h' = h
    · subst hj
      rw [upA_at]
      exact ⟨HI.addr, pk, HI.pa, HI.c, HI.good, HI.k, HI.tok, HI.idle⟩
    · rw [upA_ne _ _ hj]; exact I.hi h' h3'
  · show (upA w.H h _ h').clock ≤ w.now ∧ 0 ≤ (upA w.H h _ h').p.credit ∧ (upA w.H h _ h').p.credit ≤ 24
    by_cases hj : h' = h
    · subst hj
      rw [upA_at]
      show (w.H h').clock + 1 ≤ w.now ∧ 0 ≤ (24 : Int) ∧ (24 : Int) ≤ 24
      omega
    · rw [upA_ne _ _ hj]; exact I.hT h'
  · -- the histories: host h's clock is one on, its credit fresh; addresses that name it are its own or none
    have hadr : ∀ d, d ∈ dgs w.D → (d.src - 1).toNat = h → d.src = (h : Int) + 1 ∨ d.src < 1 := fun d _ hs => by omega
    refine ⟨fun d hd => ?_, I.hist.uniq, I.hist.pace, fun d hd => ?_, fun s => ?_, I.hist.m⟩
    · obtain ⟨a, b⟩ := I.hist.ok d hd
      refine ⟨a, ?_⟩
      unfold W.T at b ⊢
      by_cases hs : (d.src - 1).toNat = h
      · rw [hs] at b ⊢
        show d.t ≤ (upA w.H h _ h).clock
        rw [upA_at]; show d.t ≤ (w.H h).clock + 1; omega
      · show d.t ≤ (upA w.H h _ _).clock
        rw [upA_ne _ _ hs]; exact b
    · obtain ⟨a, b⟩ := I.hist.cur d hd
      have c0 := (I.hist.c d.src).1
      refine ⟨a, ?_⟩
      unfold W.T W.C at *
      by_cases hs : (d.src - 1).toNat = h
      · rw [hs] at b c0 ⊢
        show w.M d.src + (upA w.H h _ h).p.credit ≤ d.m + 24 * ((upA w.H h _ h).clock - d.t + 1)
        rw [upA_at]
        show w.M d.src + 24 ≤ d.m + 24 * ((w.H h).clock + 1 - d.t + 1)
        omega
      · show w.M d.src + (upA w.H h _ _).p.credit ≤ d.m + 24 * ((upA w.H h _ _).clock - d.t + 1)
        rw [upA_ne _ _ hs]; exact b
    · show 0 ≤ (upA w.H h _ _).p.credit ∧ (upA w.H h _ _).p.credit ≤ 24
      by_cases hs : (s - 1).toNat = h
      · rw [hs, upA_at]; show 0 ≤ (24 : Int) ∧ (24 : Int) ≤ 24; omega
      · rw [upA_ne _ _ hs]; exact (I.hT _).2
  · show (upA w.H h _ h').p.nxt_ = _
    by_cases hj : h' = h
    · subst hj; rw [upA_at]; exact I.nxt h' h3'
    · rw [upA_ne _ _ hj]; exact I.nxt h' h3'
  · show RA (upA w.H h _ h').p _ (upA w.H h _ h').clock
    by_cases hj : h' = h
    · subst hj; rw [upA_at]; exact (I.ra h' h3').tick
    · rw [upA_ne _ _ hj]; exact I.ra h' h3'
/-- what a host's tick does -/
structure HTick (w w' : W) (h : Nat) : Prop where
  go : Go w w' h
  hst : w'.H h = (w.H h).tick0.tickH (w.H h).t.list
  ok : (w.H h).tick0.tickOk (w.H h).t.list
  D : ∃ Dn, w'.D = w.D ++ Dn ∧ (w.H h).tick0.tickF (w.H h).t.list = (Dn.map Rc.frames).flatten ∧ Dn.length ≤ 12 ∧ (w'.H h).p.credit = 24 - Dn.length ∧ ∀ r, r ∈ Dn → r.t = w.now
  tk : ∀ i, i < w.n → (∃ e c, w.row i e c) → (w.N i).host = (h : Int) → w'.tk i = w.now
  tkn : ∀ i, i < w.n → (w.N i).host ≠ (h : Int) → w'.tk i = w.tk i
  tr : ∀ i, i < w.n → TrI w w' i
  same : ∀ i, i < w.n → (w.N i).host ≠ (h : Int) → ∀ e c, w'.row i e c ↔ w.row i e c
  atk : ∀ x e, (w'.H h).t.at x = some e → (w.H h).t.at x = some e
  nsd : (w'.H h).t.nextSd = (w.H h).t.nextSd
  lost : (w'.H h).lost = (w.H h).lost ∨ ((w.H h).lost < (w'.H h).lost ∧ (w'.H h).p.credit = 0)
  clk : (w'.H h).clock = w.now
  qs : ∀ x, (w'.q h x).Sublist (w.q h x)
  g : ∀ i, (w.G i).Le (w'.G i) ∧ (w'.G i).rd = (w.G i).rd
  rowT : ∀ i e0 c0, i < w.n → (w.N i).host = (h : Int) → w.row i e0 c0 → (c0.tick.1.x.st ≠ 0 → w'.row i e0 c0.tick.1) ∧ (c0.tick.1.x.st = 0 → ∀ e c, ¬ w'.row i e c) ∧ ∀ Dn, w'.D = w.D ++ Dn → (w'.H h).lost = (w.H h).lost → ∀ s, s ∈ c0.tick.2 → ∃ r, r ∈ Dn ∧ r.src = (h : Int) + 1 ∧ r.dst = e0.rHost ∧ r.g = stamp e0 s
  onlyT : ∀ Dn, w'.D = w.D ++ Dn → ∀ r, r ∈ Dn → ∃ i e0 c0, i < w.n ∧ (w.N i).host = (h : Int) ∧ w.row i e0 c0 ∧ ∃ s, s ∈ c0.tick.2 ∧ r.g = stamp e0 s
theorem Hst.tickH_clock : ∀ (l : List Int) (H : Hst), (H.tickH l).clock = H.clock
  | [], H => rfl
  | sd :: l, H => by
    simp only [Hst.tickH]
    rw [Hst.tickH_clock l]
    unfold Hst.tickH1; split
    · exact Hst.emitH_clock (H.ent sd) (H.cn sd).tick.2 H
    · rfl
theorem sorted_nodup : ∀ {l : List Int}, l.Pairwise (· < ·) → l.Nodup := fun h => List.Pairwise.imp (fun hab e => by omega) h
theorem Inv.host_tick {w : W} (I : Inv w) {h : Nat} (h3 : h < 3) (clk : (w.H h).clock + 1 = w.now) (ht : ∀ i, i < w.n → (w.N i).host = (h : Int) → w.tk i + 1 = w.now) : ∃ w', HTick w w' h := by
  obtain ⟨I0, _⟩ := I.tick0 h3 clk
  generalize hw0 : ({ w with H := upA w.H h (w.H h).tick0 } : W) = w0 at I0
  have e1 : w0.H h = (w.H h).tick0 := by rw [← hw0]; exact upA_at ..
  have en : w0.n = w.n := by rw [← hw0]
  have eN : w0.N = w.N := by rw [← hw0]
  have ew : w0.now = w.now := by rw [← hw0]
  have eD : w0.D = w.D := by rw [← hw0]
  have etk : w0.tk = w.tk := by rw [← hw0]
  have eH : ∀ j, j ≠ h → w0.H j = w.H j := fun j hj => by rw [← hw0]; exact upA_ne _ _ hj
  have eq : w0.q = w.q := by rw [← hw0]
  have eG : w0.G = w.G := by rw [← hw0]
  have rows : ∀ j e c, w0.row j e c ↔ w.row j e c := fun j e c => by
    refine host_row w w0 eN (fun j => ?_) (fun j => ?_) j e c
    · by_cases hj : j = h
      · subst hj; rw [e1]; rfl
      · rw [eH j hj]
    · by_cases hj : j = h
      · subst hj; rw [e1]; rfl
      · rw [eH j hj]
  have HI := I.hi h h3
  obtain ⟨l1, l2, l3⟩ := HI.good.r.list
  have et : (w0.H h).t = (w.H h).t := by rw [e1]; rfl
  obtain ⟨w', A⟩ := Inv.tick_list h3 (w.H h).t.list w0 I0 (by rw [e1, ew]; exact clk) (sorted_nodup l1) (fun sd hsd => by rw [et]; exact (l3 sd).1 hsd) (fun i hi hh _ => by rw [etk, ew]; rw [en] at hi; rw [eN] at hh; exact ht i hi hh)
  obtain ⟨Dn, a1, a2, a3, a4, a5⟩ := A.D
  have hcnt : ((w.H h).t.list.countP (fun sd => decide (((w0.H h).ent sd).kind = 2)) : Int) ≤ 4 := by
    have h1 := HI.good.r.count 2 (fun sd => decide (((w0.H h).ent sd).kind = 2)) (fun sd e he => by
      have : (w0.H h).ent sd = e := by unfold Hst.ent; rw [et, Tb.get_at, he]
      rw [this])
    have h2 := HI.good.r.con
    have h3 := cnt4_le (fun s => (w.H h).t.blocks.toNat.testBit s)
    omega
  refine ⟨w', ⟨A.go.inv, A.go.n.trans en, A.go.N.trans eN, A.go.now.trans ew, fun j hj => (A.go.H j hj).trans (eH j hj), fun j hj => (A.go.q j hj).trans (by rw [eq])⟩, by rw [A.hst, e1], by rw [← e1]; exact A.ok, ⟨Dn, by rw [a1, eD], by rw [← e1]; exact a2, by omega, by rw [a4, e1]; rfl, fun r hr => (a5 r hr).trans ew⟩, fun i hi hr hh => ?_, fun i hi hh => ?_, fun i hi => (A.tr i (by rw [en]; exact hi)).pre (rows i), fun i hi hh e c => ?_, fun x e hx => by rw [← et]; exact A.atk x e hx, by rw [A.nsd, et], ?_, ?_, fun x => by have := A.qs x; rw [eq] at this; exact this, fun j => by have := A.g j; rw [eG] at this; exact this, fun i e c hi hh r => ?_, fun Dn hDn r hr => by
    obtain ⟨i, e, c, hi, ha, _, rr, s, s1, s2⟩ := A.onlyT Dn (by rw [eD]; exact hDn) r hr
    exact ⟨i, e, c, by rw [← en]; exact hi, by rw [← eN]; exact ha, (rows i e c).1 rr, s, s1, s2⟩⟩
  · have := A.tk i (by rw [en]; exact hi)
    rw [this, if_pos, ew]
    obtain ⟨e, c, r⟩ := hr
    refine ⟨by rw [eN]; exact hh, ?_, e, c, (rows i e c).2 r⟩
    rw [eN]
    refine (l3 _).2 ⟨e, ?_⟩
    have hw : w.host i = w.H h := by unfold W.host; rw [hh]; simp
    rw [← hw]; exact r.at_
  · have := A.tk i (by rw [en]; exact hi)
    rw [this, if_neg (by rw [eN]; exact fun k => hh k.1), etk]
  · rw [A.same i (by rw [en]; exact hi) (by rw [eN]; exact fun k => hh k.1) e c]
    exact rows i e c
  · have e2 : (w0.H h).lost = (w.H h).lost := by rw [e1]; rfl
    rw [← e2]; exact A.lost
  · rw [A.hst, Hst.tickH_clock, e1]; exact clk
  · have hmem : (w.N i).sd ∈ (w.H h).t.list := by
      refine (l3 _).2 ⟨e, ?_⟩
      have hw : w.host i = w.H h := by unfold W.host; rw [hh]; simp
      rw [← hw]; exact r.at_
    obtain ⟨q1, q0, q2⟩ := A.rowT i e c (by rw [en]; exact hi) (by rw [eN]; exact hh) (by rw [eN]; exact hmem) ((rows i e c).2 r)
    refine ⟨q1, q0, fun Dn hDn hlo s hs => q2 Dn (by rw [eD]; exact hDn) ?_ s hs⟩
    rw [hlo, e1]; rfl
end Go.Proofs.Qxb6500351aGreat
