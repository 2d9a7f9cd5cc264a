/- THE PLAIN LAW of the abstract network, part 5: every step of the world is one of the net. No Go in sight. -/
import Derived.Test.Qxb6500351aGreatPl41
set_option linter.unusedVariables false
set_option linter.unusedSimpArgs false
namespace Go.Proofs.Qxb6500351aGreat
open Go.Eng
/-- what may happen to a host's list between two looks -/
structure HStep (w w' : W) (h : Nat) : Prop where
  at_ : ∀ x e', (w'.H h).t.at x = some e' → (∃ e, (w.H h).t.at x = some e ∧ Sim e e') ∨ x = (w.H h).t.nextSd
  nsd : (w.H h).t.nextSd ≤ (w'.H h).t.nextSd ∧ (w'.H h).t.nextSd ≤ (w.H h).t.nextSd + 1
  qs : QStep (w.q h) (w'.q h)
theorem HStep.same {w w' : W} {h : Nat} (a : (w'.H h).t = (w.H h).t) (b : w'.q h = w.q h) : HStep w w' h :=
  ⟨fun x e' k => .inl ⟨e', by rw [← a]; exact k, Sim.refl _⟩, by rw [a]; omega, by rw [b]; exact QStep.refl _⟩
theorem KC.next {w w' : W} (I : Inv w) (kc : KC w) (hs : ∀ h, h < 3 → HStep w w' h) (id : ∀ i, i < w.n → SameId (w.N i) (w'.N i)) (new : ∀ i, w.n ≤ i → i < w'.n → ∃ e c, w'.row i e c) : KC w' := by
  intro i hi e he
  by_cases hin : i < w.n
  · have s := id i hin
    have hh := I.hostR i hin
    have h1 : (w'.H (w.N i).host.toNat).t.at (w.N i).sd = some e := by rw [← s.host, ← s.sd]; exact he
    rcases (hs (w.N i).host.toNat (by omega)).at_ _ _ h1 with ⟨e0, a, b⟩ | k
    · rw [← b.kind]; exact kc i hin e0 a
    · have := (I.old i hin).2
      unfold W.host at this; omega
  · obtain ⟨e0, c0, r⟩ := new i (by omega) hi
    have h1 := r.at_
    rw [he] at h1
    cases h1
    exact r.kind
section
variable {w w' : W} {del : Nat → Int} {L L' : Nat → Ned} {i : Nat}
/-- an end that the step passes by -/
theorem EndStep.tr (I : Inv w) (hi : i < w.n) (C : NetC w L i) (hN : w'.N i = w.N i) (hL : L' i = L i) (g : (w.G i).Le (w'.G i) ∧ (w'.G i).rd = (w.G i).rd) (t : TrI w w' i) : EndStep w w' del L L' i := by
  refine ⟨by rw [hN]; exact SameId.refl _, by rw [hL]; exact SameId.refl _, by rw [hL]; exact ⟨rfl, rfl, rfl, rfl, rfl, rfl, rfl⟩, by rw [hL, hN]; exact C.sent, by rw [hL, hN]; exact C.closed, by rw [hN]; exact List.prefix_refl _, fun _ => by rw [hN], .inl (by rw [hL]), by rw [hL, g.2]; exact C.rdl, g.1, .inl (by rw [hN]), fun e0 c0 r0 => ?_, fun ha => ⟨t.absent ha, by rw [hN], by rw [hN]⟩⟩
  rcases t.stay e0 c0 r0 with ⟨e1, c1, r1, a, b, c⟩ | ⟨a, b⟩
  · refine .inl ⟨e1, c1, r1, a, b, ?_, .inl ⟨by rw [hN], fun k => k.1 (c k.2)⟩⟩
    rw [hN]
    by_cases h3 : c1.x.st = 3
    · have h0 := c h3
      have : (w.N i).wasOpen = true := by
        cases I.sta i hi e0 c0 r0 with
        | syn cl pe o => have := o.st; omega
        | srv p cl pe o => have := o.st; omega
        | well p m rel wl wc wo b => exact wo
        | bad st => omega
      rw [this]; rfl
    · simp [h3]
  · exact .inr ⟨a, b, by rw [hN], by rw [hN]⟩
/-- the end whose row changed -/
theorem EndStep.row (I : Inv w) (I' : Inv w') (R : RowEff w w' i) (hd : del (w.N i).host.toNat ≠ 0 ∨ (w'.N i).wasOpen = (w.N i).wasOpen) (C : NetC w L i) (idL : SameId (L i) (L' i))
    (vis : (L' i).gone = (L i).gone ∧ (L' i).state = (L i).state ∧ (L' i).why = (L i).why ∧ (L' i).peer = (L i).peer ∧ (L' i).wasOpen = (L i).wasOpen ∧ (L' i).offered = (L i).offered ∧ (L' i).peerFin = (L i).peerFin) (sent : (L' i).sent = (w'.N i).sent) (closed : (L' i).closed = (w'.N i).closed) (ext : (w.N i).sent <+: (w'.N i).sent) (fix : (w.N i).closed = true → (w'.N i).sent = (w.N i).sent)
    (rcvd : (L' i).rcvd = (L i).rcvd ∨ ∃ p, w.mut i p ∧ (L' i).rcvd <+: (w.N p).sent) (rdl : ((L' i).rcvd.length : Int) = (w'.G i).rd) : EndStep w w' del L L' i := by
  obtain ⟨e0, e1, c0, c1, r0, r1, sm, wo, pe, may, why, _⟩ := R.row
  have key : (w'.N i).peer = (w.N i).peer ∨ (c0.x.st = 1 ∧ (w'.n = w.n ∧ (w.N i).peer = -1 ∧ (w.N i).client = true)) := by
    rcases pe with k | ⟨a, b, _⟩
    · exact .inl k
    · refine .inr ⟨a, R.n, ?_⟩
      cases I.sta i R.hi e0 c0 r0 with
      | syn cl pe o => exact ⟨pe, cl⟩
      | srv p cl pe o => have := o.st; omega
      | well p m rel wl =>
        rcases wl.st with k | k
        · have := k.1.st; omega
        · have := k.1; omega
      | bad st => omega
  refine ⟨R.id, idL, vis, sent, closed, ext, fix, rcvd, rdl, R.gle, key.imp (fun k => k) (fun k => k.2), fun e c r => ?_, fun ha => absurd r0 (ha e0 c0)⟩
  obtain ⟨q1, q2⟩ := r.inj r0
  subst q1 q2
  refine .inl ⟨e1, c1, r1, may, why, wo, ?_⟩
  by_cases hop : c.x.st ≠ 3 ∧ c1.x.st = 3
  · refine .inr ⟨hop.1, hop.2, ?_, R.n, fun j hj hji => by rw [R.N j hji], ?_⟩
    · rcases hd with hd | hd
      · exact hd
      · exfalso
        rw [hd, hop.2] at wo
        have : (w.N i).wasOpen = true := by rw [wo]; simp
        cases I.sta i R.hi e c r0 with
        | syn cl pe o t pa nc w0 => rw [w0] at this; cases this
        | srv p cl pe o t pa nx nc w0 => rw [w0] at this; cases this
        | well p m rel wl =>
          rcases wl.st with k | k
          · exact hop.1 k.1.st
          · rw [k.1, hop.2] at may; exact absurd may (by decide)
        | bad st => rw [st, hop.2] at may; exact absurd may (by decide)
    · have w3 : ∃ p, w'.mut i p := by
        cases I'.sta i (by rw [R.n]; exact R.hi) e1 c1 r1 with
        | syn cl pe o => have := o.st; omega
        | srv p cl pe o => have := o.st; omega
        | well p m rel wl => exact ⟨p, m⟩
        | bad st => omega
      obtain ⟨p, m⟩ := w3
      refine ⟨p, m.ip, by have := m.hp; rw [R.n] at this; exact this, fun hc k hk ht => ?_⟩
      rcases pe with q | ⟨a, b, p', p1, p2, ep, cp, rp, _⟩
      · -- a client's peer was unknown
        exfalso
        cases I.sta i R.hi e c r0 with
        | syn cl pe o => have := m.ip; omega
        | srv p cl pe o => rw [hc] at cl; cases cl
        | well p m rel wl =>
          rcases wl.st with k | k
          · exact hop.1 k.1.st
          · rw [k.1, hop.2] at may; exact absurd may (by decide)
        | bad st => rw [st, hop.2] at may; exact absurd may (by decide)
      · have : p' = p := by have := m.ip; omega
        subst this
        have hpi : p' ≠ i := I'.mut_ne m
        have rp' := (R.rows p' p2 hpi ep cp).2 rp
        exact I'.row_last (by rw [R.n]; exact p2) hk rp' ht
  · refine .inl ⟨?_, hop⟩
    rcases pe with q | ⟨a, b, _⟩
    · exact q
    · exact absurd ⟨by omega, b⟩ hop
theorem TrI.rows {w w' : W} {i : Nat} (h : ∀ e c, w'.row i e c ↔ w.row i e c) : TrI w w' i := TrI.same h
/-- ALL ENDS: one row changed -/
theorem RowEff.ends (I : Inv w) (I' : Inv w') (R : RowEff w w' i) (NI : ∀ j, j < w.n → NetI w L j) (hL : ∀ j, j ≠ i → L' j = L j) (E : EndStep w w' del L L' i) : ∀ j, j < w.n → EndStep w w' del L L' j := fun j hj => by
  by_cases h : j = i
  · subst h; exact E
  · exact EndStep.tr I hj (NI j hj).c (R.N j h) (hL j h) ⟨by rw [R.G j h]; exact Gh.Le.refl _, by rw [R.G j h]⟩ (TrI.same (R.rows j hj h))
theorem RowEff.hstep (I : Inv w) (R : RowEff w w' i) {h : Nat} (hh : (w.N i).host = (h : Int)) (hH : ∀ j, j ≠ h → w'.H j = w.H j) (hq : ∀ j, j ≠ h → w'.q j = w.q j) (qs : QStep (w.q h) (w'.q h)) : ∀ j, j < 3 → HStep w w' j := fun j hj => by
  by_cases hjh : j = h
  · subst hjh
    obtain ⟨e0, e1, c0, c1, r0, r1, sm, _, _, _, _, hat⟩ := R.row
    have a1 : w.host i = w.H j := by unfold W.host; rw [hh]; simp
    have a2 : w'.host i = w'.H j := by unfold W.host; rw [R.id.host, hh]; simp
    rw [a1, a2] at hat
    have ns := R.nsd
    rw [a1, a2] at ns
    refine ⟨fun x e' k => ?_, by omega, qs⟩
    rw [hat] at k
    split at k
    · rename_i hx; subst hx
      cases k
      exact .inl ⟨e0, by rw [← a1]; exact r0.at_, sm⟩
    · exact .inl ⟨e', k, Sim.refl _⟩
  · exact HStep.same (by rw [hH j hjh]) (hq j hjh)
end
/-- A STEP of the world as the law sees it -/
structure LStep (w w' : W) (del : Nat → Int) (L L' : Nat → Ned) : Prop where
  inv : Inv w'
  syn : Syn w'
  kc : KC w'
  ends : ∀ i, i < w.n → EndStep w w' del L L' i
  hs : ∀ h, h < 3 → HStep w w' h
section
variable {w w' : W} {del : Nat → Int} {L L' : Nat → Ned}
theorem NoEff.step (I : Inv w) (kc : KC w) {h k : Nat} {H' : Hst} {fr : List (List Int)} (o : Out w w' h H' fr k) (e : NoEff w w') (NI : ∀ j, j < w.n → NetI w L j) : LStep w w' del L L ∧ w'.n = w.n := by
  have hs : ∀ h, h < 3 → HStep w w' h := fun j hj => HStep.same (e.t j) (by rw [e.q])
  refine ⟨⟨o.inv, o.syn, KC.next I kc hs (fun i _ => by rw [e.N]; exact SameId.refl _) (fun i h1 h2 => by rw [e.n] at h2; omega), fun i hi => EndStep.tr I hi (NI i hi).c (by rw [e.N]) rfl (by rw [e.G]; exact ⟨Gh.Le.refl _, rfl⟩) (TrI.same (e.rows i hi)), hs⟩, e.n⟩
theorem RowEff.step (I : Inv w) (kc : KC w) {h k : Nat} {H' : Hst} {fr : List (List Int)} (o : Out w w' h H' fr k) {i : Nat} (R : RowEff w w' i) (hh : (w.N i).host = (h : Int)) (NI : ∀ j, j < w.n → NetI w L j) (hL : ∀ j, j ≠ i → L' j = L j) (E : EndStep w w' del L L' i) : LStep w w' del L L' ∧ w'.n = w.n := by
  have hs := RowEff.hstep I R hh o.H o.q o.qs
  refine ⟨⟨o.inv, o.syn, KC.next I kc hs (fun j hj => ?_) (fun j h1 h2 => by rw [R.n] at h2; omega), RowEff.ends I o.inv R NI hL E, hs⟩, R.n⟩
  by_cases hji : j = i
  · subst hji; exact R.id
  · rw [R.N j hji]; exact SameId.refl _
theorem BornEff.step (I : Inv w) (kc : KC w) {h k : Nat} {H' : Hst} {fr : List (List Int)} (o : Out w w' h H' fr k) (B : BornEff w w' h) (hd : del h ≠ 0) (NI : ∀ j, j < w.n → NetI w L j) : LStep w w' del L L ∧ BornAt w' del w.n h := by
  obtain ⟨e, c, r, b1, b2, b3, b4, b5, b6, ⟨p, p1, p2, ep, cp, p3⟩, b8⟩ := B.row
  have hs : ∀ j, j < 3 → HStep w w' j := fun j hj => by
    by_cases hjh : j = h
    · subst hjh
      refine ⟨fun x e' k => ?_, by have := B.nsd; omega, o.qs⟩
      rw [b8] at k
      split at k
      · rename_i hx; exact .inr hx
      · exact .inl ⟨e', k, Sim.refl _⟩
    · exact HStep.same (by rw [o.H j hjh]) (o.q j hjh)
  refine ⟨⟨o.inv, o.syn, KC.next I kc hs (fun i hi => by rw [B.N i hi]; exact SameId.refl _) (fun i h1 h2 => ?_), fun i hi => EndStep.tr I hi (NI i hi).c (B.N i hi) rfl (by rw [B.G i hi]; exact ⟨Gh.Le.refl _, rfl⟩) (TrI.same (B.rows i hi)), hs⟩, ?_⟩
  · have := B.n
    have hi : i = w.n := by omega
    subst hi; exact ⟨e, c, r⟩
  · have hh := o.inv.hostR w.n (by have := B.n; omega)
    rw [b5] at hh
    refine ⟨B.n, b5, hd, ⟨e, c, p, ep, cp, r, b1, b2, b3, b4, p1, p2, (B.rows p p1 ep cp).2 p3⟩, fun x e' k => ?_⟩
    rw [b8] at k
    rw [b6]
    split at k
    · omega
    · obtain ⟨i, i1, _, i3, i4⟩ := Tb.at_row k
      have := ((I.hi h (by omega)).good.r.sd i e' i1 i3).2
      omega
/-- a frame came in -/
theorem Eff.step (I : Inv w) (kc : KC w) {h k : Nat} {H' : Hst} {fr : List (List Int)} (o : Out w w' h H' fr k) (e : Eff w w' h) (hd : del h ≠ 0) (NI : ∀ j, j < w.n → NetI w L j) : LStep w w' del L L ∧ (w'.n = w.n ∨ ∃ hb, BornAt w' del w.n hb) := by
  cases e with
  | no e => obtain ⟨a, b⟩ := e.step (del := del) I kc o NI; exact ⟨a, .inl b⟩
  | born e => obtain ⟨a, b⟩ := e.step I kc o hd NI; exact ⟨a, .inr ⟨h, b⟩⟩
  | row i e hh rd se cl =>
    have C := (NI i e.hi).c
    obtain ⟨a, b⟩ := RowEff.step I kc o e hh NI (fun _ _ => rfl) (EndStep.row (del := del) (L' := L) I o.inv e (.inl (by rw [hh]; simpa using hd)) C (SameId.refl _) ⟨rfl, rfl, rfl, rfl, rfl, rfl, rfl⟩ (by rw [se]; exact C.sent) (by rw [cl]; exact C.closed) (by rw [se]; exact List.prefix_refl _) (fun _ => se) (.inl rfl) (by rw [rd]; exact C.rdl))
    exact ⟨a, .inl b⟩
/-- a call on a connection: the caller took, or read, or closed -/
theorem RowEff.call (I : Inv w) (kc : KC w) {h k : Nat} {H' : Hst} {fr : List (List Int)} (o : Out w w' h H' fr k) {i : Nat} (R : RowEff w w' i) (hh : (w.N i).host = (h : Int)) (NI : ∀ j, j < w.n → NetI w L j) {x : Ned} (hx : x = { L i with sent := (w'.N i).sent, closed := (w'.N i).closed, rcvd := x.rcvd }) (wo : (w'.N i).wasOpen = (w.N i).wasOpen) (ext : (w.N i).sent <+: (w'.N i).sent) (fix : (w.N i).closed = true → (w'.N i).sent = (w.N i).sent) (rcvd : x.rcvd = (L i).rcvd ∨ ∃ p, w.mut i p ∧ x.rcvd <+: (w.N p).sent) (rdl : (x.rcvd.length : Int) = (w'.G i).rd) : LStep w w' del L (upA L i x) ∧ w'.n = w.n := by
  have C := (NI i R.hi).c
  have hx' : upA L i x i = x := upA_at ..
  refine RowEff.step I kc o R hh NI (fun j hj => upA_ne _ _ hj) (EndStep.row (del := del) I o.inv R (.inr wo) C ?_ ?_ ?_ ?_ ext fix ?_ ?_) <;> rw [hx']
  · rw [hx]; exact ⟨rfl, rfl, rfl, rfl, rfl, rfl⟩
  · rw [hx]; exact ⟨rfl, rfl, rfl, rfl, rfl, rfl, rfl⟩
  · rw [hx]
  · rw [hx]
  · exact rcvd
  · exact rdl
theorem WTick.step {w1 w2 w3 : W} (I : Inv w) (kc : KC w) (T : WTick w w1 w2 w3 w') (NI : ∀ j, j < w.n → NetI w L j) : LStep w w' del L L ∧ w'.n = w.n := by
  have hs : ∀ h, h < 3 → HStep w w' h := fun h h3 => by
    have eH : w'.H = w3.H := by rw [T.e]
    have eq : w'.q = w3.q := by rw [T.e]
    have hh : h = 0 ∨ h = 1 ∨ h = 2 := by omega
    rcases hh with rfl | rfl | rfl
    · have e1 : w3.H 0 = w1.H 0 := (T.t2.go.H 0 (by omega)).trans (T.t1.go.H 0 (by omega))
      have e2 : w3.q 0 = w1.q 0 := (T.t2.go.q 0 (by omega)).trans (T.t1.go.q 0 (by omega))
      refine ⟨fun x e k => .inl ⟨e, T.t0.atk x e (by rw [← e1, ← eH]; exact k), Sim.refl _⟩, ?_, .inl fun x => ?_⟩
      · rw [eH, e1, T.t0.nsd]
        exact ⟨Int.le_refl _, by show (w.H 0).t.nextSd ≤ (w.H 0).t.nextSd + 1; omega⟩
      · rw [eq, e2]; exact T.t0.qs x
    · have e1 : w3.H 1 = w2.H 1 := T.t2.go.H 1 (by omega)
      have e2 : w3.q 1 = w2.q 1 := T.t2.go.q 1 (by omega)
      have b1 : w1.H 1 = w.H 1 := T.t0.go.H 1 (by omega)
      have b2 : w1.q 1 = w.q 1 := T.t0.go.q 1 (by omega)
      refine ⟨fun x e k => .inl ⟨e, by rw [← b1]; exact T.t1.atk x e (by rw [← e1, ← eH]; exact k), Sim.refl _⟩, ?_, .inl fun x => ?_⟩
      · rw [eH, e1, T.t1.nsd, b1]; omega
      · rw [eq, e2, ← b2]; exact T.t1.qs x
    · have b1 : w2.H 2 = w.H 2 := (T.t1.go.H 2 (by omega)).trans (T.t0.go.H 2 (by omega))
      have b2 : w2.q 2 = w.q 2 := (T.t1.go.q 2 (by omega)).trans (T.t0.go.q 2 (by omega))
      refine ⟨fun x e k => .inl ⟨e, by rw [← b1]; exact T.t2.atk x e (by rw [← eH]; exact k), Sim.refl _⟩, ?_, .inl fun x => ?_⟩
      · rw [eH, T.t2.nsd, b1]; omega
      · rw [eq, ← b2]; exact T.t2.qs x
  exact ⟨⟨T.inv, T.syn, KC.next I kc hs (fun i _ => by rw [T.N]; exact SameId.refl _) (fun i h1 h2 => by rw [T.n] at h2; omega), fun i hi => EndStep.tr I hi (NI i hi).c (by rw [T.N]) rfl (T.g i) (T.tr i hi), hs⟩, T.n⟩
theorem TabEff.step (I : Inv w) (kc : KC w) {h : Nat} {t' : Tb} (T : TabEff w w' h t') (hat : ∀ x e', t'.at x = some e' → (∃ e, (w.H h).t.at x = some e ∧ Sim e e') ∨ x = (w.H h).t.nextSd) (nsd : (w.H h).t.nextSd ≤ t'.nextSd ∧ t'.nextSd ≤ (w.H h).t.nextSd + 1) (qs : QStep (w.q h) (w'.q h)) (NI : ∀ j, j < w.n → NetI w L j) : LStep w w' del L L ∧ w'.n = w.n := by
  have hs : ∀ j, j < 3 → HStep w w' j := fun j hj => by
    by_cases hjh : j = h
    · subst hjh
      exact ⟨fun x e' k => hat x e' (by rw [T.hst] at k; exact k), by rw [T.hst]; exact nsd, qs⟩
    · exact HStep.same (by rw [T.H j hjh]) (T.q j hjh)
  refine ⟨⟨T.inv, T.syn, KC.next I kc hs (fun i _ => by rw [T.N]; exact SameId.refl _) (fun i h1 h2 => by rw [T.n] at h2; omega), fun i hi => EndStep.tr I hi (NI i hi).c (by rw [T.N]) rfl (by rw [T.G]; exact ⟨Gh.Le.refl _, rfl⟩) ⟨fun e0 c0 r0 => ?_, fun ha e c r => ?_⟩, hs⟩, T.n⟩
  · obtain ⟨e', r'⟩ := T.rowB i hi e0 c0 r0
    exact .inl ⟨e', c0, r', mayStep_refl _, fun _ => .inl rfl, id⟩
  · obtain ⟨e', r', _⟩ := T.rowF i hi e c r
    exact ha e' c r'
theorem ShutDown.step (I : Inv w) (kc : KC w) {h : Nat} {lsd : Int} (S : ShutDown w w' h lsd) (NI : ∀ j, j < w.n → NetI w L j) : LStep w w' del L L ∧ w'.n = w.n := by
  have hs : ∀ j, j < 3 → HStep w w' j := fun j hj => by
    by_cases hjh : j = h
    · subst hjh
      refine ⟨fun x e' k => ?_, by rw [S.nsd]; omega, .inl S.sub⟩
      rw [S.at_] at k
      split at k
      · cases k
      · rw [Option.map_eq_some_iff] at k
        obtain ⟨e, a, b⟩ := k
        exact .inl ⟨e, a, by rw [← b]; exact orph_sim lsd e⟩
    · exact HStep.same (by rw [S.out.H j hjh]) (S.out.q j hjh)
  exact ⟨⟨S.out.inv, S.out.syn, KC.next I kc hs (fun i _ => by rw [S.N]; exact SameId.refl _) (fun i h1 h2 => by rw [S.n] at h2; omega), fun i hi => EndStep.tr I hi (NI i hi).c (by rw [S.N]) rfl (by rw [S.G]; exact ⟨Gh.Le.refl _, rfl⟩) (S.tr i hi), hs⟩, S.n⟩
end
end Go.Proofs.Qxb6500351aGreat
