/- THE PLAIN LAW of the whole network, part 17: calls that change the table alone; Connect. No Go in sight. -/
import Derived.Test.Qxb6500351aGreatPl34
set_option linter.unusedVariables false
set_option linter.unusedSimpArgs false
namespace Go.Proofs.Qxb6500351aGreat
open Go.Eng
section
variable {w : W} {h : Nat}
def W.setT (w : W) (h : Nat) (t' : Tb) (q' : Int → List Int) : W := { w with H := upA w.H h { (w.H h) with t := t' }, q := upA w.q h q' }
theorem Inv.setT (I : Inv w) (h3 : h < 3) {t' : Tb} {q' : Int → List Int} (good : t'.Good q') (K : t'.K) (tok : t'.Ok) (nsd : (w.H h).t.nextSd ≤ t'.nextSd)
    (atF : ∀ sd e', t'.at sd = some e' → e'.kind = 2 → ∃ e, (w.H h).t.at sd = some e ∧ e.kind = 2 ∧ Sim e e' ∧ (e'.parent ≠ 0 → e' = e) ∧ (e.parent = 0 → e'.parent = 0) ∧ (((w.H h).c e.slot.toNat).x.st = 2 → e' = e))
    (atB : ∀ sd e, (w.H h).t.at sd = some e → e.kind = 2 → ∃ e', t'.at sd = some e' ∧ e'.kind = 2 ∧ e'.slot = e.slot) :
    Inv (w.setT h t' q') ∧ (∀ j, j < w.n → ∀ e' c, (w.setT h t' q').row j e' c → ∃ e, w.row j e c ∧ Sim e e') ∧ (∀ j, j < w.n → ∀ e c, w.row j e c → ∃ e', (w.setT h t' q').row j e' c) := by
  have hHh : (w.setT h t' q').H h = { (w.H h) with t := t' } := upA_at ..
  have hHn : ∀ j, j ≠ h → (w.setT h t' q').H j = w.H j := fun j hj => upA_ne _ _ hj
  have HI := I.hi h h3
  have ec : ∀ j, ((w.setT h t' q').H j).c = (w.H j).c ∧ ((w.setT h t' q').H j).p = (w.H j).p ∧ ((w.setT h t' q').H j).clock = (w.H j).clock := fun j => by
    by_cases hj : j = h
    · subst hj; rw [hHh]; exact ⟨rfl, rfl, rfl⟩
    · rw [hHn j hj]; exact ⟨rfl, rfl, rfl⟩
  have hhost : ∀ j, (w.setT h t' q').host j = if (w.N j).host.toNat = h then { (w.H h) with t := t' } else w.host j := fun j => by
    have : (w.setT h t' q').host j = (w.setT h t' q').H (w.N j).host.toNat := rfl
    rw [this]
    split
    · rename_i e; rw [e, hHh]
    · rename_i e; rw [hHn _ e]; rfl
  have rowF : ∀ j, j < w.n → ∀ e' c, (w.setT h t' q').row j e' c → ∃ e, w.row j e c ∧ Sim e e' ∧ (e'.parent ≠ 0 → e' = e) ∧ (c.x.st = 2 → e' = e) ∧ (e.parent = 0 → e'.parent = 0) := fun j hj e' c r => by
    by_cases hh : (w.N j).host.toNat = h
    · have e1 := hhost j
      rw [if_pos hh] at e1
      have r1 := r.at_
      rw [e1] at r1
      obtain ⟨e, a1, a2, a3, a4, a5, a6⟩ := atF _ e' r1 r.kind
      have e2 : w.host j = w.H h := by unfold W.host; rw [hh]
      have r3 := r.c
      rw [e1] at r3
      have r3 : c = (w.H h).c e'.slot.toNat := r3
      rw [← a3.slot] at r3
      refine ⟨e, ⟨by rw [e2]; exact a1, a2, by rw [e2]; exact r3⟩, a3, a4, fun hc => a6 (by rw [← r3]; exact hc), a5⟩
    · have e1 := hhost j
      rw [if_neg hh] at e1
      exact ⟨e', ⟨by rw [← e1]; exact r.at_, r.kind, by rw [← e1]; exact r.c⟩, Sim.refl _, fun _ => rfl, fun _ => rfl, fun k => k⟩
  have rowB : ∀ j, j < w.n → ∀ e c, w.row j e c → ∃ e', (w.setT h t' q').row j e' c := fun j hj e c r => by
    by_cases hh : (w.N j).host.toNat = h
    · have e1 := hhost j
      rw [if_pos hh] at e1
      have e2 : w.host j = w.H h := by unfold W.host; rw [hh]
      have r1 := r.at_
      rw [e2] at r1
      obtain ⟨e', a1, a2, a3⟩ := atB _ e r1 r.kind
      refine ⟨e', ⟨by rw [e1]; exact a1, a2, ?_⟩⟩
      rw [e1]
      show c = (w.H h).c e'.slot.toNat
      rw [a3, ← e2]; exact r.c
    · have e1 := hhost j
      rw [if_neg hh] at e1
      exact ⟨e, ⟨by rw [e1]; exact r.at_, r.kind, by rw [e1]; exact r.c⟩⟩
  refine ⟨I.env ⟨rfl, rfl, rfl, rfl, Int.le_refl _, fun i hi => by have := I.tkn i hi; exact ⟨this.1, this.2.1⟩, rowF, rowB, fun h' h3' sd e he hk => ?_, fun h' => ?_, fun h' h3' => ?_, fun h' => ?_, ?_, fun h' h3' => ?_, fun h' h3' => ?_, fun r hr => .inl hr, I.gok⟩, fun j hj e' c r => ?_, rowB⟩
  · by_cases hj : h' = h
    · subst hj
      rw [hHh] at he
      obtain ⟨e0, a1, a2, _⟩ := atF sd e he hk
      exact ⟨e0, a1, a2⟩
    · rw [hHn h' hj] at he; exact ⟨e, he, hk⟩
  · by_cases hj : h' = h
    · subst hj; rw [hHh]; exact nsd
    · rw [hHn h' hj]; exact Int.le_refl _
  · by_cases hj : h' = h
    · subst hj
      have hq : (w.setT h' t' q').q h' = q' := upA_at ..
      rw [hHh, hq]
      refine ⟨HI.addr, HI.p, HI.pa, HI.c, good, K, tok, fun s s4 hs => HI.idle s s4 (fun sd e he hk => ?_)⟩
      obtain ⟨e', a1, a2, a3⟩ := atB sd e he hk
      rw [← a3]; exact hs sd e' a1 a2
    · have hq : (w.setT h t' q').q h' = w.q h' := upA_ne _ _ hj
      rw [hHn h' hj, hq]; exact I.hi h' h3'
  · rw [(ec h').2.2, (ec h').2.1]; exact I.hT h'
  · have e1 : (w.setT h t' q').T = w.T := by funext s; exact (ec _).2.2
    have e2 : (w.setT h t' q').C = w.C := by
      funext s
      show ((w.setT h t' q').H _).p.credit = _
      rw [(ec _).2.1]; rfl
    rw [e1, e2]; exact I.hist
  · rw [(ec h').2.1]; exact I.nxt h' h3'
  · rw [(ec h').2.1, (ec h').2.2]; exact I.ra h' h3'
  · obtain ⟨e, a, b, _⟩ := rowF j hj e' c r
    exact ⟨e, a, b⟩
/-- what a call on the table alone leaves behind -/
structure TabEff (w w' : W) (h : Nat) (t' : Tb) : Prop where
  inv : Inv w'
  syn : Syn w'
  n : w'.n = w.n
  N : w'.N = w.N
  now : w'.now = w.now
  D : w'.D = w.D
  hst : w'.H h = { (w.H h) with t := t' }
  H : ∀ j, j ≠ h → w'.H j = w.H j
  q : ∀ j, j ≠ h → w'.q j = w.q j
  rowF : ∀ j, j < w.n → ∀ e' c, w'.row j e' c → ∃ e, w.row j e c ∧ Sim e e'
  rowB : ∀ j, j < w.n → ∀ e c, w.row j e c → ∃ e', w'.row j e' c
  G : w'.G = w.G
theorem TabEff.of (I : Inv w) (sy : Syn w) {t' : Tb} {q' : Int → List Int} (x : Inv (w.setT h t' q') ∧ (∀ j, j < w.n → ∀ e' c, (w.setT h t' q').row j e' c → ∃ e, w.row j e c ∧ Sim e e') ∧ (∀ j, j < w.n → ∀ e c, w.row j e c → ∃ e', (w.setT h t' q').row j e' c)) : TabEff w (w.setT h t' q') h t' ∧ (w.setT h t' q').q h = q' := by
  refine ⟨⟨x.1, ⟨sy.tk, fun j hj => ?_⟩, rfl, rfl, rfl, rfl, upA_at .., fun j hj => upA_ne _ _ hj, fun j hj => upA_ne _ _ hj, x.2.1, x.2.2, rfl⟩, upA_at ..⟩
  have := sy.clk j hj
  show (upA w.H h { (w.H h) with t := t' } j).clock = w.now
  by_cases hj' : j = h
  · subst hj'; rw [upA_at]; exact this
  · rw [upA_ne _ _ hj']; exact this
/-- LISTEN -/
theorem Inv.listen (I : Inv w) (sy : Syn w) (h3 : h < 3) (hn : (w.H h).t.nextSd < 1152921504606846976) (p : Int) {u : Tb} (hu : (w.H h).t.listen p = ((w.H h).t.nextSd, 0, u)) : ∃ w', TabEff w w' h u ∧ w'.q h = w.q h ∧ u.nextSd = (w.H h).t.nextSd + 1 ∧ (∀ sd, u.at sd = if sd = (w.H h).t.nextSd then some (lisEn (w.H h).t.nextSd p) else (w.H h).t.at sd) := by
  have HI := I.hi h h3
  have hnx := HI.good.r.next
  rcases HI.good.listen p with ⟨k, _⟩ | ⟨k, _⟩ | ⟨k, _⟩ | ⟨u', k, hp, hno, hl, g, gn, ga⟩
  · rw [hu] at k; have := congrArg Prod.fst k; dsimp only at this; omega
  · rw [hu] at k; have := congrArg Prod.fst k; dsimp only at this; omega
  · rw [hu] at k; have := congrArg Prod.fst k; dsimp only at this; omega
  · rw [hu] at k; cases k
    have uK := HI.k.listen p
    have uo := HI.good.ok_listen HI.tok hn p
    rw [hu] at uK uo
    have x := I.setT h3 g uK uo (by omega) (fun sd e' he hk => by
      rw [ga] at he
      split at he
      · cases he; exact (lis_ne2 hk).elim
      · exact ⟨e', he, hk, Sim.refl _, fun _ => rfl, fun k => k, fun _ => rfl⟩) (fun sd e he hk => by
      refine ⟨e, ?_, hk, rfl⟩
      rw [ga, if_neg]; exact he
      intro hs; subst hs
      obtain ⟨i, i1, _, i3, i4⟩ := Tb.at_row he
      have := (HI.good.r.sd i e i1 i3).2; omega)
    obtain ⟨y, z⟩ := TabEff.of I sy x
    exact ⟨_, y, z, gn, ga⟩
/-- ACCEPT -/
theorem Inv.accept (I : Inv w) (sy : Syn w) (h3 : h < 3) {lsd sd : Int} {u : Tb} (hu : (w.H h).t.accept lsd = (sd, 0, u)) : ∃ w' rest e, TabEff w w' h u ∧ w.q h lsd = sd :: rest ∧ w'.q h = updQ (w.q h) lsd rest ∧ u.nextSd = (w.H h).t.nextSd ∧ (w.H h).t.at sd = some e ∧ e.kind = 2 ∧ e.parent = lsd ∧ e.ready = true ∧ (∀ x, u.at x = if x = sd then some e.owned else (w.H h).t.at x) ∧ ∃ f, (w.H h).t.at lsd = some f ∧ f.kind = 1 := by
  have HI := I.hi h h3
  rcases HI.good.accept lsd with ⟨k, _⟩ | ⟨f, k, _⟩ | ⟨u', f, sd', e, rest, k, k1, k2, k3, k4, k5, k6, k7, k8, k9, k10, k11⟩
  · rw [hu] at k; cases k
  · rw [hu] at k; cases k
  · rw [hu] at k; cases k
    have uK := HI.k.accept HI.good lsd
    have uo := HI.good.ok_accept HI.tok HI.k lsd
    rw [hu] at uK uo
    have hlsd : lsd ≠ 0 := by
      obtain ⟨i, i1, _, i3, i4⟩ := Tb.at_row k1
      have := (HI.good.r.sd i f i1 i3).1; omega
    have x := I.setT h3 k8 uK uo (by omega) (fun x e' he hk => by
      rw [k11] at he
      split at he
      · rename_i hx; subst hx
        cases he
        refine ⟨e, k4, k5, ⟨rfl, rfl, rfl, rfl, rfl, rfl⟩, fun hp => absurd rfl hp, fun _ => rfl, fun hs => ?_⟩
        exfalso
        obtain ⟨i, i1, i2, i3, i4, i5, r⟩ := I.end_of h3 k4 k5
        have h1 := I.rd i i1 e _ r (by rw [k6]; exact hlsd)
        rw [k7] at h1
        cases I.sta i i1 e _ r with
        | syn cl pe o => have := o.st; omega
        | srv p cl pe o t pa nx nc wo => rw [wo] at h1; cases h1
        | well p m rel wl wc wo b =>
          rcases wl.st with q | q
          · have := q.1.st; omega
          · have := q.1; omega
        | bad st => omega
      · exact ⟨e', he, hk, Sim.refl _, fun _ => rfl, fun k => k, fun _ => rfl⟩) (fun x e' he hk => by
      by_cases hx : x = sd
      · subst hx
        rw [k4] at he; cases he
        exact ⟨e.owned, by rw [k11, if_pos rfl], k5, rfl⟩
      · exact ⟨e', by rw [k11, if_neg hx]; exact he, hk, rfl⟩)
    obtain ⟨y, z⟩ := TabEff.of I sy x
    exact ⟨_, rest, e, y, k3, z, k9, k4, k5, k6, k7, k11, f, k1, k2⟩
def conN (h : Int) (en : En) : Ned := ⟨h, en.sd, en.lPort, en.rHost, en.rPort, true, -1, [], [], 0, 1, 0, false, false, false, false⟩
/-- CONNECT -/
theorem Inv.connect (I : Inv w) (sy : Syn w) (h3 : h < 3) (hn : (w.H h).t.nextSd < 1152921504606846976) {rh rp : Int} (hE : ((w.H h).t.connect rh rp).2.1 = 0) :
    ∃ w' e c, Out w w' h ((w.H h).conH rh rp) ((w.H h).conF rh rp) 1 ∧ w'.n = w.n + 1 ∧ (∀ j, j < w.n → w'.N j = w.N j) ∧ (∀ j, j < w.n → ∀ e c, w'.row j e c ↔ w.row j e c) ∧ w'.row w.n e c ∧ c.x.st = 1 ∧ w'.N w.n = conN h e ∧ w'.q = w.q ∧ (w.H h).conEn rh rp = e ∧ e.sd = (w.H h).t.nextSd ∧ e.kind = 2 ∧ e.rHost = rh ∧ e.rPort = rp ∧ (8 ≤ e.lPort ∧ e.lPort ≤ 15) ∧ e.parent = 0 ∧ (0 ≤ e.slot ∧ e.slot < 4) ∧
      (∀ sd f, (w.H h).t.at sd = some f → f.kind = 2 → ¬ f.tup e.lPort rh rp) ∧ (w'.H h).t.nextSd = (w.H h).t.nextSd + 1 ∧ (∀ sd, (w'.H h).t.at sd = if sd = (w.H h).t.nextSd then some e else (w.H h).t.at sd) ∧ c = (((w.H h).c e.slot.toNat).openA ((w.H h).clock % 256)).1 ∧ ((w.H h).c e.slot.toNat).x.st = 0 ∧ (∀ j, j < w.n → w'.G j = w.G j) ∧ c.x.timer = 2 ∧ c.x.retries = 0 ∧ ((w'.H h).lost = (w.H h).lost → ∃ r, w'.D = w.D ++ [r] ∧ r.dst = rh ∧ r.g.dp = rp ∧ r.g.flags = 1) := by
  have HI := I.hi h h3
  have clk := sy.clk h h3
  rcases HI.good.connect HI.tok.eph rh rp with ⟨k, _⟩ | ⟨k, _⟩ | ⟨k, _⟩ | ⟨u, lp, slot, k, k1, k2, k3, k4, k5, k6, k7, k8, k9, k10⟩
  · rw [k] at hE; exact absurd hE (by decide : ¬ (5 : Int) = 0)
  · rw [k] at hE; exact absurd hE (by decide : ¬ (22 : Int) = 0)
  · rw [k] at hE; exact absurd hE (by decide : ¬ (11 : Int) = 0)
  have uK := HI.k.connect rh rp
  have uo := HI.good.ok_connect HI.tok hn rh rp
  rw [k] at uK uo
  have hat := k10 (w.H h).t.nextSd
  rw [if_pos rfl] at hat
  have hce : (w.H h).conEn rh rp = conEn (w.H h).t.nextSd lp rh rp slot 0 := by
    unfold Hst.conEn; rw [k]; dsimp only; rw [Tb.get_at, hat]
  unfold Hst.conH Hst.conF
  rw [hce, k]
  dsimp only
  have n0 : ¬ ¬ (0 : Int) = 0 := by simp
  rw [if_neg n0, if_neg n0]
  generalize he1 : conEn (w.H h).t.nextSd lp rh rp slot 0 = e1 at *
  have e1k : e1.kind = 2 ∧ e1.lPort = lp ∧ e1.rHost = rh ∧ e1.rPort = rp ∧ e1.slot = slot ∧ e1.parent = 0 ∧ e1.ready = false ∧ e1.sd = (w.H h).t.nextSd := by rw [← he1]; exact ⟨rfl, rfl, rfl, rfl, rfl, rfl, rfl, rfl⟩
  obtain ⟨q1, q2, q3, q4, q5, q6, q7, q8⟩ := e1k
  have ok0 : ((w.H h).c e1.slot.toNat).Ok := HI.c _
  have hiss : 0 ≤ (w.H h).clock % 256 ∧ (w.H h).clock % 256 < 256 := by omega
  obtain ⟨o1, o2⟩ := Conn.ok_openAP ok0 ((w.H h).clock % 256) hiss
  have hag : (((w.H h).c e1.slot.toNat).openA ((w.H h).clock % 256)).2 = [(((w.H h).c e1.slot.toNat).openA ((w.H h).clock % 256)).1.again] := rfl
  rw [hag]
  have hst0 : ((w.H h).c e1.slot.toNat).x.st = 0 := by
    rw [q5]; exact idle_slot I h3 k5 (fun sd e he hk => (k9 sd e he hk).2)
  generalize hc : (((w.H h).c e1.slot.toNat).openA ((w.H h).clock % 256)).1 = c at *
  have hiss' : (w.H h).clock % 256 = w.now % 256 := by rw [clk]
  rw [hiss'] at o1 hiss
  obtain ⟨a1, a2, a3, a4⟩ := o1.again1 hiss
  have bear : Bear w h e1 c u [(c.again, Kd.syn w.n)] (w.now % 256) (conN h e1) := by
    refine ⟨h3, clk, ?_, q1, by rw [q5]; exact k5, fun sd e he hk => by rw [q2, q3, q4, q5]; exact k9 sd e he hk, o1.ok, fun g kd hg => ?_, k6, uK, uo, k10, k7, rfl, q8, rfl, rfl, rfl, ?_, hiss, rfl, rfl, rfl, fun hcl => absurd (show true = false from hcl) (by decide), fun _ => ⟨o1, q6, rfl, rfl, fun g kd hg => ?_⟩, by rw [o2]; exact Int.le_refl _, fun i2 p2 m2 hc2 ht2 => ?_⟩
    · exact ⟨by rw [q2]; omega, by rw [q3]; omega, by rw [q4]; omega, by rw [q5]; omega⟩
    · have hg : (g, kd) = _ := List.mem_singleton.1 hg
      cases hg; exact a1
    · refine ⟨?_, ?_, fun _ => ?_, fun hcl => absurd (show true = false from hcl) (by decide)⟩
      · show 1 ≤ e1.rHost ∧ e1.rHost ≤ 255; rw [q3]; exact k1
      · show 1 ≤ e1.rPort ∧ e1.rPort ≤ 15; rw [q4]; exact k2
      · show 8 ≤ e1.lPort ∧ e1.lPort ≤ 15; rw [q2]; exact k4
    · have hg : (g, kd) = _ := List.mem_singleton.1 hg
      cases hg; exact ⟨rfl, a2, a3, a4⟩
    · exfalso
      have h2 := (I.mut_cl m2).symm
      rw [hc2] at h2
      have h3' : (w.N p2).client = false := by cases hp : (w.N p2).client <;> rw [hp] at h2 <;> simp_all
      have h4 := ((I.ports p2 m2.hp).2.2.2 h3').1
      have h5 : (w.N p2).lPort = e1.lPort := ht2.2.1
      omega
  obtain ⟨I', r', rows⟩ := I.bear bear
  have hHh : (w.bear h e1 c u [(c.again, Kd.syn w.n)] (w.now % 256) (conN h e1)).H h = { (w.H h).emitH e1 [c.again] with c := upA (w.H h).c e1.slot.toNat c, t := u } := upA_at ..
  have hout := Inv.out (w' := w.bear h e1 c u [(c.again, Kd.syn w.n)] (w.now % 256) (conN h e1)) I' sy h3 I (e := e1) (L := [(c.again, Kd.syn w.n)]) (k := 1) (by simp) (by rw [hHh]; rfl) (by rw [hHh]; rfl) (by rw [hHh]; exact Hst.emitH_clock _ _ _) (fun j hj => upA_ne _ _ hj) (fun _ _ => rfl) rfl rfl (fun j hj => by
    have hj : j < w.n + 1 := hj
    by_cases hjn : j = w.n
    · subst hjn; exact upA_at ..
    · have : (w.bear h e1 c u [(c.again, Kd.syn w.n)] (w.now % 256) (conN h e1)).tk j = w.tk j := upA_ne _ _ hjn
      rw [this]; exact sy.tk j (by omega)) (QStep.refl _)
  rw [hHh] at hout
  refine ⟨_, e1, c, hout, rfl, fun j hj => upA_ne _ _ (by omega), rows, r', o1.st, upA_at .., rfl, rfl, q8, q1, q3, q4, by omega, q6, by omega, fun sd f hf hk => by rw [q2]; exact (k9 sd f hf hk).1, by rw [hHh]; exact k7, fun sd => by rw [hHh]; exact k10 sd, hc.symm, hst0, fun j hj => upA_ne _ _ (by omega), by rw [← hc]; rfl, by rw [← hc]; rfl, fun hlo => ?_⟩
  rw [hHh] at hlo
  obtain ⟨rc, r1, _, r3, r4⟩ := emitR_full (now := w.now) (e := e1) [(c.again, Kd.syn w.n)] (w.H h) (w.M (w.H h).addr) (I.hT h).2.1 hlo c.again (by simp)
  have hlen := emit_len (now := w.now) (e := e1) [(c.again, Kd.syn w.n)] (w.H h) (w.M (w.H h).addr)
  have hone : emitR w.now e1 (w.H h) (w.M (w.H h).addr) [(c.again, Kd.syn w.n)] = [rc] := by
    cases hq : emitR w.now e1 (w.H h) (w.M (w.H h).addr) [(c.again, Kd.syn w.n)] with
    | nil => rw [hq] at r1; exact absurd r1 (by simp)
    | cons a t =>
      rw [hq] at r1 hlen
      cases t with
      | nil => rw [List.mem_singleton.1 r1]
      | cons b t => simp at hlen
  exact ⟨rc, by rw [← hone]; rfl, by rw [r3, q3], by rw [r4]; exact q4, by rw [r4]; exact a2⟩
end
end Go.Proofs.Qxb6500351aGreat
