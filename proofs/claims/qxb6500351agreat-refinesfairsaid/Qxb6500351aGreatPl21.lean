/- THE PLAIN LAW of the whole network, part 4: a connection between two ends that know each other goes on. No Go in sight. -/
import Derived.Test.Qxb6500351aGreatPl20
set_option linter.unusedVariables false
set_option linter.unusedSimpArgs false
namespace Go.Proofs.Qxb6500351aGreat
open Go.Eng
/-- the table behind a step of one connection -/
structure Tab (w : W) (i : Nat) (e0 e1 : En) (t' : Tb) (q' : Int → List Int) : Prop where
  good : t'.Good q'
  K : t'.K
  tok : t'.Ok
  at_ : ∀ x, t'.at x = if x = (w.N i).sd then some e1 else (w.host i).t.at x
  sim : Sim e0 e1
  nsd : t'.nextSd = (w.host i).t.nextSd
section
variable {w : W} {i p : Nat} {e0 e1 : En} {c0 c1 : Conn} {t' : Tb} {q' : Int → List Int} {g1 : Gh} {x1 : Ned} {segs : List Seg}
theorem Inv.hhost (I : Inv w) (hi : i < w.n) : HInv (w.host i) (w.q (w.N i).host.toNat) (w.N i).host.toNat := I.hi _ (by have := I.hostR i hi; omega)
theorem Tab.same (I : Inv w) (hi : i < w.n) (r : w.row i e0 c0) : Tab w i e0 e0 (w.host i).t (w.q (w.N i).host.toNat) := by
  have h := I.hhost hi
  refine ⟨h.good, h.k, h.tok, fun x => ?_, Sim.refl _, rfl⟩
  split
  · rename_i hx; subst hx; exact r.at_
  · rfl
/-- every segment gets its kind -/
theorem kinds {P : Seg → Kd → Prop} : ∀ (l : List Seg), (∀ s, s ∈ l → ∃ k, P s k) → ∃ L : List (Seg × Kd), L.map Prod.fst = l ∧ ∀ g k, (g, k) ∈ L → g ∈ l ∧ P g k
  | [], _ => ⟨[], rfl, fun g k h => absurd h (by simp)⟩
  | s :: l, h => by
    obtain ⟨k, hk⟩ := h s (List.mem_cons_self ..)
    obtain ⟨L, h1, h2⟩ := kinds l (fun s hs => h s (List.mem_cons_of_mem _ hs))
    refine ⟨(s, k) :: L, by simp [h1], fun g k' hg => ?_⟩
    rcases List.mem_cons.1 hg with h3 | h3
    · cases h3; exact ⟨List.mem_cons_self .., hk⟩
    · obtain ⟨a, b⟩ := h2 g k' h3
      exact ⟨List.mem_cons_of_mem _ a, b⟩
theorem Inv.row_e (I : Inv w) (hi : i < w.n) (r : w.row i e0 c0) : e0.Ok := by
  have := Tb.get_ok (I.hhost hi).tok (w.N i).sd
  rw [Tb.get_at, r.at_] at this; exact this
theorem Inv.row_c (I : Inv w) (hi : i < w.n) (r : w.row i e0 c0) : c0.Ok := by rw [r.c]; exact (I.hhost hi).c _
/-- where a stamped segment of end i comes from -/
theorem Inv.seg_of (I : Inv w) (hi : i < w.n) (r : w.row i e0 c0) {w' : W} (hn : w'.n = w.n) (hN : SameId (w.N i) (w'.N i)) {rc : Rc} {g : Seg} (h1 : rc.src = (w.N i).host + 1) (h2 : rc.dst = (w.N i).rHost) (h3 : rc.g = stamp e0 g) : w'.seg rc i := by
  have t := I.tup i hi e0 c0 r
  refine ⟨by rw [hn]; exact hi, by rw [hN.host]; exact h1, by rw [hN.rh]; exact h2, ?_, ?_⟩
  · rw [h3, hN.lp]; exact t.1
  · rw [h3, hN.rp]; exact t.2.2
theorem put_N {L : List (Seg × Kd)} : (w.put i e0 c1 t' q' L g1 x1).N i = x1 := upA_at ..
theorem put_G {L : List (Seg × Kd)} : (w.put i e0 c1 t' q' L g1 x1).G i = g1 := upA_at ..
theorem put_Nn {L : List (Seg × Kd)} {j : Nat} (h : j ≠ i) : (w.put i e0 c1 t' q' L g1 x1).N j = w.N j := upA_ne _ _ h
theorem put_Gn {L : List (Seg × Kd)} {j : Nat} (h : j ≠ i) : (w.put i e0 c1 t' q' L g1 x1).G j = w.G j := upA_ne _ _ h
theorem put_tk {L : List (Seg × Kd)} : (w.put i e0 c1 t' q' L g1 x1).tk i = w.now := upA_at ..
theorem put_tkn {L : List (Seg × Kd)} {j : Nat} (h : j ≠ i) : (w.put i e0 c1 t' q' L g1 x1).tk j = w.tk j := upA_ne _ _ h
theorem Inv.mut_ne (I : Inv w) (m : w.mut i p) : p ≠ i := fun h => by
  subst h
  have := I.mut_cl m
  cases hc : (w.N p).client <;> rw [hc] at this <;> cases this
theorem put_mut {L : List (Seg × Kd)} (hpe : x1.peer = (w.N i).peer) (a b : Nat) : (w.put i e0 c1 t' q' L g1 x1).mut a b ↔ w.mut a b := by
  have hp : ∀ j, ((w.put i e0 c1 t' q' L g1 x1).N j).peer = (w.N j).peer := fun j => by
    by_cases hj : j = i
    · subst hj; rw [put_N]; exact hpe
    · rw [put_Nn hj]
  exact ⟨fun m => ⟨m.hi, m.hp, by rw [← hp]; exact m.ip, by rw [← hp]; exact m.pi⟩, fun m => ⟨m.hi, m.hp, by rw [hp]; exact m.ip, by rw [hp]; exact m.pi⟩⟩
/-- TWO ENDS THAT KNOW EACH OTHER: one goes on -/
theorem Inv.well (I : Inv w) (hi : i < w.n) (r : w.row i e0 c0) (clk : (w.host i).clock = w.now) (m : w.mut i p) (T : Tab w i e0 e1 t' q')
    (rel : Rel c1 g1 x1.sent (w.G p) (w.N p).sent) (wl : Well c1 g1) (le : (w.G i).Le g1) (S : ∃ l, x1.sent = (w.N i).sent ++ l ∧ ((w.G i).f = true → l = [])) (cl : (w.N i).closed = true → x1.closed = true) (id : SameId (w.N i) x1) (pe : x1.peer = (w.N i).peer) (wc : c1.x.weClosed = x1.closed) (wo : x1.wasOpen = true) (rd : e1.parent ≠ 0 → e1.ready = true)
    (hU : g1.u ≤ (w.G p).r ∧ (g1.fa = true → (w.G p).pf = true)) (outs : Outs segs g1 x1.sent (w.G p).iss)
    (win : c1.x.st ≠ 4 → c0.x.st ≠ 4 ∧ g1.X + c1.x.credit ≤ (w.G i).X + c0.x.credit + 12 * (w.now - w.tk i)) (win2 : g1.X ≤ (w.G i).X + 12 * (w.now - w.tk i) ∨ (c0.x.st ≠ 4 ∧ g1.X ≤ (w.G i).X + c0.x.credit + 12 * (w.now - w.tk i)))
    (pres : c1.x.st = 4 → c1.x.quiet = 10 ∨ (c0.x.st = 4 ∧ c0.x.quiet ≤ c1.x.quiet + (w.now - w.tk i))) (b : c1.x.st = 4 → g1.b + 10 ≤ w.now + c1.x.quiet)
    (hq : c1.x.st = 4 → c1.x.quiet = 10 ∨ ((∀ s, s ∈ segs → s.data = [] ∧ s.flags = 2) ∧ w.pres p 6 ∧ w.tk p = w.now) ∨ segs = []) :
    ∃ L : List (Seg × Kd), L.map Prod.fst = segs ∧ Inv (w.put i e0 c1 t' q' L g1 x1) := by
  obtain ⟨L, hL, hLk⟩ := kinds (P := fun s kd => ∃ k, kd = .est i k g1.R ∧ SegV s g1 x1.sent (w.G p).iss k g1.R ∧ g1.u ≤ k ∧ k ≤ g1.X) segs (fun s hs => by
    obtain ⟨k, k1, k2⟩ := outs s hs
    exact ⟨_, k, rfl, k1, k2⟩)
  have hpi := I.mut_ne m
  have gp := I.gh p m.hp
  have gi := I.gh i hi
  have pr1 := I.pair i p m
  have pr2 := I.pair p i m.symm
  have hux := rel.ux
  have hg1 : GhOk g1 x1 := by
    refine ⟨by rw [le.iss]; exact gi.iss, hux.2.2.2, hux.1, hux.2.1, rel.r0, fun k => ⟨rel.f1 k, by rw [← wc]; exact rel.wc k⟩, rel.fa1, hux.2.2.1, by have h1 := rel.rdq; have h2 := rel.r.av; have h3 := rel.ok.r.av0; omega, by have h1 := rel.rdq; have h3 := rel.ok.r.av1; omega⟩
  have hrn := rel.r.rn
  have hpl : ((w.N p).sent.take (w.G p).x.toNat).length = (w.G p).x.toNat := by rw [List.length_take]; have := gp.xn; have := gp.ux; have := gp.u0; omega
  rw [hpl] at hrn
  have hP1 : PairOk g1 (w.G p) := by
    refine ⟨hU.1, by have := pr1.rx; have := le.x; omega, hU.2, fun k => ?_⟩
    obtain ⟨k1, k2⟩ := pr1.pf k
    refine ⟨le.f k1, ?_⟩
    have h1 := (gi.f1 k1).1
    have h2 := rel.f1 (le.f k1)
    obtain ⟨l, hl, hl2⟩ := S
    rw [hl, hl2 k1, List.append_nil] at h2
    omega
  have hP2 : PairOk (w.G p) g1 := by
    refine ⟨by have := pr2.ur; have := le.r; omega, by have := gp.u0; have := gp.ux; omega, fun k => le.pf (pr2.fa k), fun k => ?_⟩
    obtain ⟨k1, k2⟩ := rel.pf1 k
    exact ⟨k1, by rw [k2]; exact (gp.f1 k1).1.symm⟩
  refine ⟨L, hL, I.put (e1 := e1) (c0 := c0) ⟨hi, r, clk, rel.ok, ?_, ?_, T.good, T.K, T.tok, T.at_, T.sim, T.nsd, id, .inl pe, le, S, cl, ?_, hg1, fun hno => absurd m (hno p), fun p' m' => ?_, fun hpar => by rw [wo]; exact rd hpar, win, win2, pres, ?_⟩⟩
  · intro g k hg
    obtain ⟨_, k', _, v, _⟩ := hLk g k hg
    exact v.ok
  · rcases wl.st with h | h
    · rw [h.1.st]; decide
    · rw [h.1]; decide
  · -- the status
    refine .well p ((put_mut pe i p).2 m) ?_ ?_ ?_ ?_ ?_
    · rw [put_G, put_N, put_Gn hpi, put_Nn hpi]; exact rel
    · rw [put_G]; exact wl
    · rw [put_N]; exact wc
    · rw [put_N]; exact wo
    · intro h4; rw [put_G, put_tk]; exact b h4
  · have : p' = p := m'.right m
    subst this
    exact ⟨hP1, hP2⟩
  · intro g k hg rc h1 h2 h3 h4 h5
    obtain ⟨gs, k', hk, v, hku, hkx⟩ := hLk g k hg
    obtain ⟨r1, r2⟩ := put_row (c1 := c1) (L := L) (g1 := g1) (q' := q') I hi r T.at_ T.sim id
    have hseg := I.seg_of hi r (w' := w.put i e0 c1 t' q' L g1 x1) rfl (by rw [put_N]; exact id) h2 h3 h4
    have UX := rel.UX
    have hR : 0 ≤ g1.R := by have := rel.r0; have := b2_b g1.pf; unfold Gh.R; omega
    have hRr : g1.r ≤ g1.R := by have := b2_b g1.pf; unfold Gh.R; omega
    have hcr := rel.ok.x.credit
    refine .est i p k' g1.R hseg (h5.trans hk) ((put_mut pe i p).2 m) ?_ hR ?_ (by rw [put_G]; exact hkx) ?_ ?_ ?_
    · rw [put_G, put_N, put_Gn hpi, h4]
      exact ⟨stamp_ok (I.row_e hi r) v.ok, v.flags, v.seq, v.ack, v.k0, v.data⟩
    · rw [put_G]; exact Int.le_refl _
    · rw [put_tk, h1]
      refine ⟨by rw [put_G]; omega, fun e c hr hs => ?_⟩
      rw [(hr.inj r1).2] at hs ⊢
      rw [put_G]; omega
    · rw [put_tkn hpi, h1]
      have htp := I.tkn p m.hp
      have hXp : (w.G p).X ≤ (w.G p).u + 17 := by have := gp.xu; have := b2_b (w.G p).f; unfold Gh.X; omega
      have hup := hP2.ur
      refine ⟨by rw [put_Gn hpi]; omega, fun e c hr hs => ?_⟩
      rw [put_Gn hpi]
      have hr0 := (r2 p m.hp hpi e c).1 hr
      have := (I.row_c m.hp hr0).x.credit
      omega
    · by_cases h4' : c1.x.st = 4
      · rcases hq h4' with hq | ⟨hq1, ⟨e, c, hr, hs⟩, hq3⟩ | hq
        · left; rw [put_tk, h1]; exact ⟨e1, c1, r1, fun _ => by omega⟩
        · right
          obtain ⟨d1, d2⟩ := hq1 g gs
          refine ⟨by rw [h4]; exact d1, by rw [h4]; exact d2, ?_⟩
          rw [put_tkn hpi, h1, hq3]
          exact ⟨e, c, (r2 p m.hp hpi e c).2 hr, fun h => by have := hs h; omega⟩
        · rw [hq] at gs; exact absurd gs (by simp)
      · left; exact ⟨e1, c1, r1, fun h => absurd h h4'⟩
end
end Go.Proofs.Qxb6500351aGreat
