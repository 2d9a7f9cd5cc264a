/- THE PLAIN LAW of the whole network, part 15: a frame comes in. No Go in sight. -/
import Derived.Test.Qxb6500351aGreatPl32
set_option linter.unusedVariables false
set_option linter.unusedSimpArgs false
namespace Go.Proofs.Qxb6500351aGreat
open Go.Eng
/-- what a frame may do to the ends -/
inductive Eff (w w' : W) (h : Nat) : Prop where
  | no (e : NoEff w w')
  | row (i : Nat) (e : RowEff w w' i) (hh : (w.N i).host = (h : Int)) (rd : (w'.G i).rd = (w.G i).rd) (se : (w'.N i).sent = (w.N i).sent) (cl : (w'.N i).closed = (w.N i).closed)
  | born (e : BornEff w w' h)
theorem Inv.inputR {w : W} (I : Inv w) (sy : Syn w) {h : Nat} (h3 : h < 3) (hn : (w.H h).t.nextSd < 1152921504606846976) {raw : List Int} {rc : Rc} (hr : rc ∈ w.D) (hage : w.now - rc.t ≤ 4) (hf : raw ∈ rc.frames) :
    ∃ w', Out w w' h ((w.H h).inputH raw) ((w.H h).inputF raw) 3 ∧ Eff w w' h ∧ ((w.H h).segIn raw = some (rc.src, rc.g) → Disp w w' h rc) ∧ ((w.H h).segIn raw = none → NoEff w w') := by
  have HI := I.hi h h3
  unfold Hst.inputH Hst.inputF
  · have gok := I.gok rc hr
    have clk := sy.clk h h3
    have hT : ∀ s, w.T s ≤ w.now := fun s => (I.hT _).1
    have ra := I.ra h h3
    rw [clk] at ra
    obtain ⟨b1, ⟨p, b2, b3, b4, b5, b6⟩, b7⟩ := Hst.in_frame HI.p HI.pa I.hist hT ra hr hage gok hf
    have ra' : RA p (dgs w.D) (w.H h).clock := by rw [b2] at b1; rw [clk]; exact b1
    have I1 := I.pin h3 b3 b4 b5 b6 ra'
    generalize hw1 : ({ w with H := upA w.H h { (w.H h) with p := p } } : W) = w1 at I1
    have e1 : w1.H h = (w.H h).pIn raw := by rw [b2, ← hw1]; exact upA_at ..
    have eH : ∀ j, j ≠ h → w1.H j = w.H j := fun j hj => by rw [← hw1]; exact upA_ne _ _ hj
    have en : w1.n = w.n := by rw [← hw1]
    have eN : w1.N = w.N := by rw [← hw1]
    have eG : w1.G = w.G := by rw [← hw1]
    have ew : w1.now = w.now := by rw [← hw1]
    have eD : w1.D = w.D := by rw [← hw1]
    have etk : w1.tk = w.tk := by rw [← hw1]
    have eq : w1.q = w.q := by rw [← hw1]
    have eh : (w1.H h).t = (w.H h).t ∧ (w1.H h).c = (w.H h).c ∧ (w1.H h).clock = (w.H h).clock ∧ (w1.H h).lost = (w.H h).lost ∧ (w1.H h).p.credit = (w.H h).p.credit := by rw [e1, b2]; exact ⟨rfl, rfl, rfl, rfl, b6⟩
    have et : ∀ j, (w1.H j).t = (w.H j).t := fun j => by
      by_cases hj : j = h
      · subst hj; exact eh.1
      · rw [eH j hj]
    have rows : ∀ j e c, w1.row j e c ↔ w.row j e c := fun j e c => host_row w w1 eN (fun j => by
      by_cases hj : j = h
      · subst hj; exact eh.2.1
      · rw [eH j hj]) et j e c
    have sy1 : Syn w1 := ⟨fun i hi => by rw [etk, ew]; rw [en] at hi; exact sy.tk i hi, fun j hj => by
      rw [ew]
      by_cases hjh : j = h
      · subst hjh; rw [eh.2.2.1]; exact sy.clk j hj
      · rw [eH j hjh]; exact sy.clk j hj⟩
    have out : ∀ (w' : W) (H' : Hst) (fr : List (List Int)), Out w1 w' h H' fr 3 → Out w w' h H' fr 3 := fun w' H' fr o => by
      obtain ⟨Dn, d1, d2, d3, d4, d5⟩ := o.D
      refine ⟨o.inv, o.hst, fun j hj => (o.H j hj).trans (eH j hj), fun j hj => (o.q j hj).trans (by rw [eq]), o.now.trans ew, o.syn, ⟨Dn, by rw [d1, eD], d2, d3, by rw [d4, eh.2.2.2.2], fun r hr => (d5 r hr).trans ew⟩, ?_, ?_⟩
      · rw [← eh.2.2.2.1]; exact o.lost
      · have := o.qs; rw [eq] at this; exact this
    have no : ∀ w', NoEff w1 w' → NoEff w w' := fun w' e => ⟨e.n.trans en, e.N.trans eN, fun j hj a c => (e.rows j (by rw [en]; exact hj) a c).trans (rows j a c), fun j => (e.t j).trans (et j), e.q.trans eq, e.G.trans eG⟩
    have sent : ∀ w' e segs, Sent w1 w' h e segs → Sent w w' h e segs := fun w' e segs s Dn hDn hl => s Dn (by rw [eD]; exact hDn) (by rw [eh.2.2.2.1]; exact hl)
    have bornE : ∀ w', BornEff w1 w' h → BornEff w w' h := fun w' y => by
      obtain ⟨e, c, q1, q2, q3, q4, q5, q6, q7, ⟨p', p1, p2, ep, cp, p3⟩, q9⟩ := y.row
      rw [en] at q1 q6 q7 p1 p2
      exact ⟨by rw [y.n, en], fun j hj => (y.N j (by rw [en]; exact hj)).trans (by rw [eN]), fun j hj a c => (y.rows j (by rw [en]; exact hj) a c).trans (rows j a c), fun j hj => (y.G j (by rw [en]; exact hj)).trans (by rw [eG]), ⟨e, c, q1, q2, q3, q4, q5, q6, by rw [q7, eh.1], ⟨p', p1, p2, ep, cp, (rows p' ep cp).1 p3⟩, fun x => by rw [q9, eh.1]⟩, by rw [y.nsd, eh.1]⟩
    have disp : ∀ w', Disp w1 w' h rc → Disp w w' h rc := fun w' d => by
      refine ⟨fun i e0 c0 hi hh r t => ?_, fun i e c hi r hno => ?_, fun k1 k2 k3 => ?_, fun i e0 c0 hi hh r t => ?_, fun k1 k2 k3 => ?_⟩
      · obtain ⟨a, b⟩ := d.hit i e0 c0 (by rw [en]; exact hi) (by rw [eN]; exact hh) ((rows i e0 c0).2 r) t
        exact ⟨a, sent _ _ _ b⟩
      · exact d.miss i e c (by rw [en]; exact hi) ((rows i e c).2 r) (by rw [eN]; exact hno)
      · obtain ⟨e, a, b, c⟩ := d.none (by rw [et]; exact k1) k2 k3
        exact ⟨e, a, b, sent _ _ _ c⟩
      · have := d.only i e0 c0 (by rw [en]; exact hi) (by rw [eN]; exact hh) ((rows i e0 c0).2 r) t
        rw [eD, en] at this; exact this
      · obtain ⟨x1, ⟨p, p1, p2, ep, cp, p3⟩, ⟨e, c, x3, x4⟩, x5, x6⟩ := d.born (by rw [et]; exact k1) k2 (by rw [et]; exact k3)
        rw [en] at p1 p2 x3 x6
        exact ⟨bornE w' x1, ⟨p, p1, p2, ep, cp, (rows p ep cp).1 p3⟩, ⟨e, c, x3, x4⟩, fun Dn hDn hlo => x5 Dn (by rw [eD]; exact hDn) (by rw [eh.2.2.2.1]; exact hlo), x6⟩
    rcases b7 with b7 | ⟨b7, b8⟩
    · rw [b7]
      obtain ⟨w', x, y⟩ := I1.disp_stay sy1 h 3
      dsimp only
      rw [← e1]
      exact ⟨w', out w' _ _ x, .no (no w' y), fun k => (by cases k), fun _ => no w' y⟩
    · rw [b8]
      dsimp only
      rw [← e1]
      obtain ⟨w', x, y, dd⟩ := I1.disp sy1 h3 (by rw [eD]; exact hr) (by rw [ew]; exact hage) (by rw [b7]; exact HI.addr) gok (by rw [eh.1]; exact hn)
      refine ⟨w', out w' _ _ x, ?_, fun _ => disp w' dd, fun k => (by cases k)⟩
      rcases y with y | ⟨i, y, y2, y5, y3, y4⟩ | y
      · exact .no (no w' y)
      · obtain ⟨e0, e1', c0, c1, q1, q2, q3, q4, q5, q6, q7, q8⟩ := y.row
        have hhost : (w1.host i).t = (w.host i).t := by unfold W.host; rw [eN]; exact et _
        refine .row i ⟨by rw [← en]; exact y.hi, y.n.trans en, fun j hj => (y.N j hj).trans (by rw [eN]), by rw [← eN]; exact y.id, ⟨e0, e1', c0, c1, (rows i e0 c0).1 q1, q2, q3, by rw [← eN]; exact q4, ?_, q6, q7, fun x => ?_⟩, fun j hj hji a c => (y.rows j (by rw [en]; exact hj) hji a c).trans (rows j a c), fun j hj => (y.G j hj).trans (by rw [eG]), by rw [← eG]; exact y.gle, by rw [y.nsd, hhost]⟩ (by rw [← eN]; exact y2) (by rw [← eG]; exact y5) (by rw [← eN]; exact y3) (by rw [← eN]; exact y4)
        · rw [eN] at q5
          rcases q5 with q5 | ⟨a, b, p', p1, p2, ep, cp, p3, p4⟩
          · exact .inl q5
          · exact .inr ⟨a, b, p', p1, by rw [← en]; exact p2, ep, cp, (rows p' ep cp).1 p3, p4⟩
        · rw [q8, eN, hhost]
      · exact .born (bornE w' y)
theorem Inv.input {w : W} (I : Inv w) (sy : Syn w) {h : Nat} (h3 : h < 3) (hn : (w.H h).t.nextSd < 1152921504606846976) {raw : List Int} (hr : soundF raw ≠ 0 ∨ ∃ r, r ∈ w.D ∧ w.now - r.t ≤ 4 ∧ raw ∈ r.frames) :
    ∃ w', Out w w' h ((w.H h).inputH raw) ((w.H h).inputF raw) 3 ∧ Eff w w' h := by
  rcases hr with hr | ⟨rc, hr, hage, hf⟩
  · unfold Hst.inputH Hst.inputF
    obtain ⟨a, b⟩ := Hst.in_flip (H := w.H h) hr
    rw [b, a]
    obtain ⟨w', x, y⟩ := I.disp_stay sy h 3
    exact ⟨w', x, .no y⟩
  · obtain ⟨w', a, b, _⟩ := I.inputR sy h3 hn hr hage hf
    exact ⟨w', a, b⟩
end Go.Proofs.Qxb6500351aGreat
