/- THE PLAIN LAW of the whole network, part 14: a segment is dispatched. No Go in sight. -/
import Derived.Test.Qxb6500351aGreatPl31
set_option linter.unusedVariables false
set_option linter.unusedSimpArgs false
namespace Go.Proofs.Qxb6500351aGreat
open Go.Eng
/-- one end's row changed, and no other -/
structure RowEff (w w' : W) (i : Nat) : Prop where
  hi : i < w.n
  n : w'.n = w.n
  N : ∀ j, j ≠ i → w'.N j = w.N j
  id : SameId (w.N i) (w'.N i)
  row : ∃ e0 e1 c0 c1, w.row i e0 c0 ∧ w'.row i e1 c1 ∧ Sim e0 e1 ∧ (w'.N i).wasOpen = ((w.N i).wasOpen || decide (c1.x.st = 3)) ∧ ((w'.N i).peer = (w.N i).peer ∨ (c0.x.st = 1 ∧ c1.x.st = 3 ∧ ∃ p : Nat, (w'.N i).peer = (p : Int) ∧ p < w.n ∧ w.pres p 6)) ∧ mayStep c0.x.st c1.x.st = true ∧ (c0.x.st = 4 → c1.x.why = c0.x.why ∨ (c0.x.why = 0 ∧ c1.x.why = 20)) ∧
    (∀ x, (w'.host i).t.at x = if x = (w.N i).sd then some e1 else (w.host i).t.at x)
  rows : ∀ j, j < w.n → j ≠ i → ∀ e c, w'.row j e c ↔ w.row j e c
  G : ∀ j, j ≠ i → w'.G j = w.G j
  gle : (w.G i).Le (w'.G i)
  nsd : (w'.host i).t.nextSd = (w.host i).t.nextSd
def kidN (h : Int) (en : En) (p : Int) : Ned := ⟨h, en.sd, en.lPort, en.rHost, en.rPort, false, p, [], [], 0, 2, 0, false, false, false, false⟩
/-- an end was born -/
structure BornEff (w w' : W) (h : Nat) : Prop where
  n : w'.n = w.n + 1
  N : ∀ j, j < w.n → w'.N j = w.N j
  rows : ∀ j, j < w.n → ∀ e c, w'.row j e c ↔ w.row j e c
  G : ∀ j, j < w.n → w'.G j = w.G j
  row : ∃ e c, w'.row w.n e c ∧ c.x.st = 2 ∧ c.x.why = 0 ∧ e.parent ≠ 0 ∧ e.ready = false ∧ (w'.N w.n).host = (h : Int) ∧ (w'.N w.n).sd = (w.H h).t.nextSd ∧ (∃ p : Nat, p < w.n ∧ w'.N w.n = kidN h e p ∧ (∃ e c, w.row p e c)) ∧
    ∀ x, (w'.H h).t.at x = if x = (w.H h).t.nextSd then some e else (w.H h).t.at x
  nsd : (w'.H h).t.nextSd = (w.H h).t.nextSd + 1
/-- nothing that an end shows changed -/
structure NoEff (w w' : W) : Prop where
  n : w'.n = w.n
  N : w'.N = w.N
  rows : ∀ j, j < w.n → ∀ e c, w'.row j e c ↔ w.row j e c
  t : ∀ h, (w'.H h).t = (w.H h).t
  q : w'.q = w.q
  G : w'.G = w.G
/-- an accept queue loses some, or gains one at its end -/
def QStep (q q' : Int → List Int) : Prop := (∀ x, (q' x).Sublist (q x)) ∨ ∃ x sd, q' = updQ q x (q x ++ [sd])
theorem QStep.refl (q : Int → List Int) : QStep q q := .inl fun _ => List.Sublist.refl _
/-- what a host's step leaves behind: frames, the clock, the other hosts -/
structure Out (w w' : W) (h : Nat) (H' : Hst) (fr : List (List Int)) (k : Nat) : Prop where
  inv : Inv w'
  hst : w'.H h = H'
  H : ∀ j, j ≠ h → w'.H j = w.H j
  q : ∀ j, j ≠ h → w'.q j = w.q j
  now : w'.now = w.now
  syn : Syn w'
  D : ∃ Dn, w'.D = w.D ++ Dn ∧ fr = (Dn.map Rc.frames).flatten ∧ Dn.length ≤ k ∧ H'.p.credit = (w.H h).p.credit - Dn.length ∧ ∀ r, r ∈ Dn → r.t = w.now
  lost : H'.lost = (w.H h).lost ∨ ((w.H h).lost < H'.lost ∧ H'.p.credit = 0)
  qs : QStep (w.q h) (w'.q h)
/-- all these segments went out, if nothing was lost -/
def Sent (w w' : W) (h : Nat) (e : En) (segs : List Seg) : Prop := ∀ Dn, w'.D = w.D ++ Dn → (w'.H h).lost = (w.H h).lost → ∀ g, g ∈ segs → ∃ r, r ∈ Dn ∧ r.src = (h : Int) + 1 ∧ r.dst = e.rHost ∧ r.g = stamp e g
/-- a child is born, and answers -/
structure BornX (w w' : W) (h : Nat) : Prop where
  e : BornEff w w' h
  p : ∃ p : Nat, p < w.n ∧ (w'.N w.n).peer = (p : Int) ∧ (∃ e c, w.row p e c)
  c : ∃ e c, w'.row w.n e c ∧ c.x.st = 2 ∧ c.x.timer = 2 ∧ c.x.retries = 0
  D : ∀ Dn, w'.D = w.D ++ Dn → (w'.H h).lost = (w.H h).lost → ∃ r, Dn = [r] ∧ r.g.flags = 3
  hn : (w'.N w.n).host = (h : Int)
/-- what a record that comes whole does -/
structure Disp (w w' : W) (h : Nat) (r : Rc) : Prop where
  hit : ∀ i e0 c0, i < w.n → (w.N i).host = (h : Int) → w.row i e0 c0 → e0.tup r.g.dp r.src r.g.sp → (∃ e1, w'.row i e1 (c0.input r.g).1) ∧ Sent w w' h e0 (c0.input r.g).2
  miss : ∀ i e c, i < w.n → w.row i e c → ¬ ((w.N i).host = (h : Int) ∧ e.tup r.g.dp r.src r.g.sp) → w'.row i e c
  none : (∀ sd e, (w.H h).t.at sd = some e → e.kind = 2 → ¬ e.tup r.g.dp r.src r.g.sp) → r.g.flags ≠ 1 → r.g.flags / 8 * 8 = 0 → ∃ e : En, stamp e (nobody r.g) = nobody r.g ∧ e.rHost = r.src ∧ Sent w w' h e [nobody r.g]
  only : ∀ i e0 c0, i < w.n → (w.N i).host = (h : Int) → w.row i e0 c0 → e0.tup r.g.dp r.src r.g.sp → w'.n = w.n ∧ ∀ Dn, w'.D = w.D ++ Dn → ∀ r', r' ∈ Dn → ∃ s, s ∈ (c0.input r.g).2 ∧ r'.g = stamp e0 s
  born : (∀ sd e, (w.H h).t.at sd = some e → e.kind ≠ 2) → r.g.flags = 1 → (∃ sd f, (w.H h).t.at sd = some f ∧ f.kind = 1 ∧ f.lPort = r.g.dp) → BornX w w' h
theorem Sent.of {w w' : W} {h : Nat} {e : En} (I : Inv w) (h3 : h < 3) {L : List (Seg × Kd)} {segs : List Seg} (hL : L.map Prod.fst = segs) (hD : w'.D = w.D ++ emitR w.now e (w.H h) (w.M (w.H h).addr) L) (hl : (w'.H h).lost = ((w.H h).emitH e (L.map Prod.fst)).lost) : Sent w w' h e segs := fun Dn hDn hlo g hg => by
  rw [hD] at hDn
  have e1 := List.append_cancel_left hDn
  subst e1
  obtain ⟨r, r1, r2, r3, r4⟩ := emitR_full (now := w.now) (e := e) L (w.H h) (w.M (w.H h).addr) (I.hT h).2.1 (by rw [← hl]; exact hlo) g (by rw [hL]; exact hg)
  exact ⟨r, r1, r2.trans (I.hi h h3).addr, r3, r4⟩
theorem nobody_rst (s : Seg) : (nobody s).flags / 8 = 1 := by
  unfold nobody; split
  · show (8 : Int) / 8 = 1; decide
  · show (10 : Int) / 8 = 1; decide
theorem nobody_ports (s : Seg) : (nobody s).sp = s.dp ∧ (nobody s).dp = s.sp := by
  unfold nobody; split <;> exact ⟨rfl, rfl⟩
/-- the bare conditions behind an emission of one host -/
theorem Inv.out {w w' : W} (I' : Inv w') (sy : Syn w) {h : Nat} (h3 : h < 3) (I : Inv w) {e : En} {L : List (Seg × Kd)} {k : Nat} (hL : L.length ≤ k) (hH : (w'.H h).p = ((w.H h).emitH e (L.map Prod.fst)).p) (hl : (w'.H h).lost = ((w.H h).emitH e (L.map Prod.fst)).lost) (hc : (w'.H h).clock = (w.H h).clock) (hn : ∀ j, j ≠ h → w'.H j = w.H j) (hq : ∀ j, j ≠ h → w'.q j = w.q j) (now : w'.now = w.now) (hD : w'.D = w.D ++ emitR w.now e (w.H h) (w.M (w.H h).addr) L)
    (tk : ∀ i, i < w'.n → w'.tk i = w.now) (qs : QStep (w.q h) (w'.q h)) : Out w w' h (w'.H h) ((w.H h).emitF e (L.map Prod.fst)) k := by
  have HI := I.hi h h3
  obtain ⟨ep, ec, el⟩ := emitH_p (now := w.now) (e := e) L (w.H h) (w.M (w.H h).addr) (I.hT h).2.1
  refine ⟨I', rfl, hn, hq, now, ⟨fun i hi => by rw [now]; exact tk i hi, fun j hj => ?_⟩, ⟨_, hD, ?_, ?_, ?_, fun r hr => by obtain ⟨_, _, _, q, _⟩ := emitR_mem L _ _ r hr; exact q⟩, ?_, qs⟩
  · by_cases hjh : j = h
    · subst hjh; rw [hc, now]; exact sy.clk j hj
    · rw [hn j hjh, now]; exact sy.clk j hj
  · exact emitF_frames L (w.H h) _ HI.pa (by rw [HI.addr]; exact I.nxt h h3)
  · have := emit_len (now := w.now) (e := e) L (w.H h) (w.M (w.H h).addr); omega
  · rw [hH]; exact ep.credit
  · rw [hl, hH]; exact el
theorem cnt4_none {P : Nat → Bool} (h : ∀ i, i < 4 → P i = false) : ¬ ∃ i, i < 4 ∧ P i = true := fun ⟨i, h1, h2⟩ => by rw [h i h1] at h2; cases h2
/-- with no connection at all a child finds room -/
theorem Tb.Good.child_ok {t : Tb} {q : Int → List Int} (g : t.Good q) (hno : ∀ sd e, t.at sd = some e → e.kind ≠ 2) {lp rh rp : Int} (hl : ¬ t.lis lp = 0) (h0 : t.lookup lp rh rp = 0) (h1 : 1 ≤ rh ∧ rh ≤ 255) (h2 : 1 ≤ rp ∧ rp ≤ 15) (hc : (t.child lp rh rp).2.1 ≠ 0) : False := by
  have hl1 : ¬ t.lrow lp = -1 := fun h => hl (by unfold Tb.lis; rw [if_pos h])
  rcases g.r.lrow lp with ⟨k, _⟩ | ⟨l, f, l1, l2, l3, l4, l5⟩
  · exact hl1 k
  have lr : (t.lrow lp).toNat = l := by rw [l2]; simp
  have noes : ∀ i e, i < 6 → t.es i = some e → e.kind ≠ 2 := fun i e hi he => hno e.sd e (g.r.at_of hi he).1
  have hk : (t.rows l).kids = 0 := by
    rw [(g.q.kids l f l1 l3 l4).1]
    refine cnt6_zero fun i hi => ?_
    unfold isKid
    cases he : t.es i with
    | none => rfl
    | some e =>
      refine decide_eq_false fun hp => ?_
      rcases g.r.kind i e hi he with q | q
      · have h1 := q.parent
        have h2 := (g.r.sd l f l1 l3).1
        omega
      · exact noes i e hi he q.kind
  have hlow : ¬ t.low = -1 := fun h => by
    have b := Tb.low_no h 0 (by omega)
    obtain ⟨i, e, i1, i2, i3, i4⟩ := (g.r.bits 0 (by omega)).1 b
    exact noes i e i1 i2 i3
  have hf := g.has_free (.inr hlow)
  unfold Tb.child at hc
  rw [if_neg hl1, if_neg (by omega), if_neg (by omega), if_neg (not_not_intro h0), lr, if_neg (fun q => q.elim (fun q => by omega) (fun q => hlow q))] at hc
  have hcn : ∀ p, ¬ (t.conn lp rh rp t.low p).1 = 0 := fun p => by
    rw [Tb.conn_eq hf]
    have := g.r.next
    show ¬ t.nextSd = 0
    omega
  rw [if_neg (hcn _)] at hc
  exact hc rfl
section
variable {w : W} {h : Nat} {rc : Rc}
theorem Inv.disp_stay (I : Inv w) (sy : Syn w) (h : Nat) (k : Nat) : ∃ w', Out w w' h (w.H h) [] k ∧ NoEff w w' :=
  ⟨w, ⟨I, rfl, fun _ _ => rfl, fun _ _ => rfl, rfl, sy, ⟨[], by simp, rfl, by simp, by simp, fun r hr => absurd hr (by simp)⟩, .inl rfl, QStep.refl _⟩, ⟨rfl, rfl, fun _ _ _ _ => Iff.rfl, fun _ => rfl, rfl, rfl⟩⟩
/-- a SYN meets a listener -/
theorem Inv.disp_lis (I : Inv w) (sy : Syn w) (h3 : h < 3) (hr : rc ∈ w.D) (hage : w.now - rc.t ≤ 4) (hd : rc.dst = (h : Int) + 1) (gok : rc.g.Ok) (hn : (w.H h).t.nextSd < 1152921504606846976) (l0 : (w.H h).t.lookup rc.g.dp rc.src rc.g.sp = 0) (hf : rc.g.flags = 1) (hl : ¬ (w.H h).t.lis rc.g.dp = 0) :
    ∃ w', Out w w' h ((w.H h).toLisH rc.src rc.g) ((w.H h).toLisF rc.src rc.g) 3 ∧ ((NoEff w w' ∧ ¬ ∀ sd e, (w.H h).t.at sd = some e → e.kind ≠ 2) ∨ BornX w w' h) := by
  have HI := I.hi h h3
  have clk := sy.clk h h3
  unfold Hst.toLisH Hst.toLisF
  rcases HI.good.child hl l0 with ⟨c1, c2, c3⟩ | ⟨u, slot, f, c1, c2, c3, c4, c5, c6, c7, c8, c9, c10, c11, c12, c13⟩
  · rw [if_pos c2, if_pos c2, c3]
    obtain ⟨w', a, b⟩ := I.disp_stay sy h 3
    refine ⟨w', a, .inl ⟨b, fun hno => ?_⟩⟩
    have i0 : ∃ i, w.seg rc i ∧ (w.N i).client = true := by
      cases I.recs rc hr hage with
      | sa a p s k cl pe fl => rw [hf] at fl; exact absurd fl (by decide)
      | rst k fl => rw [hf] at fl; exact absurd fl (by decide)
      | est a b k m s kk mm v =>
        rcases v.flags with fl | ⟨fl, _⟩ <;> rw [hf] at fl <;> exact absurd fl (by decide)
      | syn i s k cl fl sq da t pr op => exact ⟨i, s, cl⟩
    obtain ⟨i, s, cl⟩ := i0
    have hp := (I.ports i s.hi).2.2.1 cl
    have hh := I.hostR i s.hi
    exact HI.good.child_ok hno hl l0 (by rw [s.src]; omega) (by rw [s.sp]; omega) c2
  have uK : u.K := by have := HI.k.child rc.g.dp rc.src rc.g.sp; rw [c1] at this; exact this
  have uo : u.Ok := by have := HI.good.ok_child HI.tok hn hl l0; rw [c1] at this; exact this
  rw [c1]
  dsimp only
  have hat := c13 (w.H h).t.nextSd
  rw [if_pos rfl] at hat
  have hget : u.get (w.H h).t.nextSd = (conEn (w.H h).t.nextSd rc.g.dp rc.src rc.g.sp slot f.sd, 0) := by rw [Tb.get_at, hat]
  have n0 : ¬ (0 : Int) ≠ 0 := by simp
  rw [if_neg n0, if_neg n0, hget]
  dsimp only
  have i0 : ∃ i, w.seg rc i ∧ (w.N i).client = true ∧ rc.g.seq = (w.G i).iss ∧ ((w.G i).b ≤ rc.t ∧ rc.t ≤ (w.G i).b + 30) ∧ w.pres i (10 - (w.tk i - rc.t)) ∧ ∀ j : Nat, (w.N i).peer = (j : Int) → w.pres j (6 - (w.tk j - rc.t)) := by
    cases I.recs rc hr hage with
    | sa a p s k cl pe fl => rw [hf] at fl; exact absurd fl (by decide)
    | rst k fl => rw [hf] at fl; exact absurd fl (by decide)
    | est a b k m s kk mm v =>
      rcases v.flags with fl | ⟨fl, _⟩ <;> rw [hf] at fl <;> exact absurd fl (by decide)
    | syn i s k cl fl sq da t pr op => exact ⟨i, s, cl, sq, t, pr, op⟩
  obtain ⟨i, s, cl, sq, t, pr, op⟩ := i0
  generalize he1 : conEn (w.H h).t.nextSd rc.g.dp rc.src rc.g.sp slot f.sd = e1 at *
  have e1k : e1.kind = 2 ∧ e1.lPort = rc.g.dp ∧ e1.rHost = rc.src ∧ e1.rPort = rc.g.sp ∧ e1.slot = slot ∧ e1.parent = f.sd ∧ e1.ready = false ∧ e1.sd = (w.H h).t.nextSd := by rw [← he1]; exact ⟨rfl, rfl, rfl, rfl, rfl, rfl, rfl, rfl⟩
  obtain ⟨k1, k2, k3, k4, k5, k6, k7, k8⟩ := e1k
  have hslot : e1.slot.toNat = slot.toNat := by rw [k5]
  have ok0 : ((w.H h).c e1.slot.toNat).Ok := HI.c _
  have hiss : 0 ≤ (w.H h).clock % 256 ∧ (w.H h).clock % 256 < 256 := by omega
  obtain ⟨o1, o2, o3⟩ := Conn.ok_openPP ok0 ((w.H h).clock % 256) hiss rc.g
  have hag : (((w.H h).c e1.slot.toNat).openP ((w.H h).clock % 256) rc.g).2 = [(((w.H h).c e1.slot.toNat).openP ((w.H h).clock % 256) rc.g).1.again] := rfl
  rw [hag]
  have otm : (((w.H h).c e1.slot.toNat).openP ((w.H h).clock % 256) rc.g).1.x.timer = 2 := rfl
  have ort : (((w.H h).c e1.slot.toNat).openP ((w.H h).clock % 256) rc.g).1.x.retries = 0 := rfl
  generalize (((w.H h).c e1.slot.toNat).openP ((w.H h).clock % 256) rc.g).1 = c at *
  generalize hiss' : (w.H h).clock % 256 = iss at *
  obtain ⟨a1, a2, a3, a4, a5⟩ := o1.again2
  have hports := I.ports i s.hi
  have hcl := hports.2.2.1 cl
  have hhost := I.hostR i s.hi
  have hsrc := s.src
  have hsp := s.sp
  have fsd : f.sd ≠ 0 := by
    obtain ⟨l, ll1, _, ll3, ll4⟩ := Tb.at_row c6
    have := (HI.good.r.sd l f ll1 ll3).1; omega
  have hfresh : ∀ sd e, (w.H h).t.at sd = some e → e.kind = 2 → ¬ e.tup e1.lPort e1.rHost e1.rPort ∧ e.slot ≠ e1.slot := fun sd e he hk => by
    rw [k2, k3, k4, k5]; exact c12 sd e he hk
  have hmir : mir (kidN h e1 (i : Int)) (w.N i) := by
    refine ⟨?_, ?_, ?_, ?_⟩
    · show (w.N i).host + 1 = e1.rHost; rw [k3]; exact s.src.symm
    · show (h : Int) + 1 = (w.N i).rHost; rw [← s.dst]; exact hd.symm
    · show e1.lPort = (w.N i).rPort; rw [k2]; exact s.dp
    · show e1.rPort = (w.N i).lPort; rw [k4]; exact s.sp
  have htn := I.tkn i s.hi
  have bear : Bear w h e1 c u [(c.again, Kd.sa w.n)] iss (kidN h e1 (i : Int)) := by
    refine ⟨h3, clk, ?_, k1, by rw [k5]; exact c5, hfresh, o1.ok, fun g kd hg => ?_, c9, uK, uo, c13, c10, rfl, k8, rfl, rfl, rfl, ?_, hiss, rfl, rfl, rfl, fun _ => ?_, fun hc => absurd (show false = true from hc) (by decide), by rw [o2]; exact Int.le_refl _, fun i2 p2 m2 hc2 ht2 => ?_⟩
    · exact ⟨by rw [k2]; omega, by rw [k3]; omega, by rw [k4]; omega, by rw [k5]; omega⟩
    · have hg : (g, kd) = _ := List.mem_singleton.1 hg
      cases hg; exact a1
    · refine ⟨?_, ?_, fun hc => absurd (show false = true from hc) (by decide), fun _ => ⟨?_, ?_, ?_⟩⟩
      · show 1 ≤ e1.rHost ∧ e1.rHost ≤ 255; rw [k3]; omega
      · show 1 ≤ e1.rPort ∧ e1.rPort ≤ 15; rw [k4]; omega
      · show 1 ≤ e1.lPort ∧ e1.lPort < 8; rw [k2]; omega
      · show 8 ≤ e1.rPort; rw [k4]; omega
      · show e1.rHost ≤ 3; rw [k3]; omega
    · refine ⟨o1, by rw [k6]; exact fsd, k7, i, s.hi, rfl, cl, hmir, by omega, by omega, by rw [o3, sq], fun g kd hg => ?_⟩
      have hg : (g, kd) = _ := List.mem_singleton.1 hg
      cases hg
      exact ⟨rfl, a2, a3, by rw [a4, o3, sq], a5⟩
    · show (i2 : Int) < (i : Int)
      have htw : twin (w.N i2) (w.N i) := (I.mir_of_mut m2.symm).twin (by
        have := hmir
        exact ⟨by rw [ht2.2.2.1]; exact this.1, by rw [ht2.1]; exact this.2.1, by rw [ht2.2.1]; exact this.2.2.1, by rw [ht2.2.2.2]; exact this.2.2.2⟩)
      rcases Nat.lt_trichotomy i2 i with q | q | q
      · omega
      · exfalso
        subst q
        obtain ⟨ep, cp, rp, _⟩ := op p2 m2.ip
        have hw : w.host p2 = w.H h := by unfold W.host; rw [ht2.1]; show w.H (h : Int).toNat = _; simp
        have r1 := rp.at_
        rw [hw] at r1
        have r2 := I.tup p2 m2.hp ep cp rp
        refine (hfresh _ ep r1 rp.kind).1 ⟨?_, ?_, ?_⟩
        · rw [r2.1, ht2.2.1]; rfl
        · rw [r2.2.1, ht2.2.2.1]; rfl
        · rw [r2.2.2, ht2.2.2.2]; rfl
      · exfalso
        obtain ⟨ep, cp, rp, _⟩ := pr
        exact (I.ord i i2 q m2.hi htw.symm).1 ep cp rp
  obtain ⟨I', r', rows⟩ := I.bear bear
  have hHh : (w.bear h e1 c u [(c.again, Kd.sa w.n)] iss (kidN h e1 (i : Int))).H h = { (w.H h).emitH e1 [c.again] with c := upA (w.H h).c e1.slot.toNat c, t := u } := upA_at ..
  have hout := Inv.out (w' := w.bear h e1 c u [(c.again, Kd.sa w.n)] iss (kidN h e1 (i : Int))) I' sy h3 I (e := e1) (L := [(c.again, Kd.sa w.n)]) (k := 3) (by simp) (by rw [hHh]; rfl) (by rw [hHh]; rfl) (by rw [hHh]; exact Hst.emitH_clock _ _ _) (fun j hj => upA_ne _ _ hj) (fun _ _ => rfl) rfl rfl (fun j hj => by
    have hj : j < w.n + 1 := hj
    by_cases hjn : j = w.n
    · subst hjn; exact upA_at ..
    · have : (w.bear h e1 c u [(c.again, Kd.sa w.n)] iss (kidN h e1 (i : Int))).tk j = w.tk j := upA_ne _ _ hjn
      rw [this]; exact sy.tk j (by omega)) (QStep.refl _)
  rw [hHh] at hout
  obtain ⟨ep, cp, rp, _⟩ := pr
  refine ⟨_, hout, .inr ⟨⟨rfl, fun j hj => upA_ne _ _ (by omega), rows, fun j hj => upA_ne _ _ (by omega), ⟨e1, c, r', o1.st, o1.why, by rw [k6]; exact fsd, k7, ?_, ?_, ⟨i, s.hi, upA_at .., ep, cp, rp⟩, fun x => by rw [hHh]; exact c13 x⟩, by rw [hHh]; exact c10⟩, ⟨i, s.hi, by show (upA w.N w.n (kidN h e1 (i : Int)) w.n).peer = _; rw [upA_at]; rfl, ep, cp, rp⟩, ⟨e1, c, r', o1.st, otm, ort⟩, fun Dn hDn hlo => ?_, ?_⟩⟩
  · show (upA w.N w.n (kidN h e1 (i : Int)) w.n).host = _; rw [upA_at]; rfl
  · show (upA w.N w.n (kidN h e1 (i : Int)) w.n).sd = _; rw [upA_at]; exact k8
  · have hDn : w.D ++ emitR w.now e1 (w.H h) (w.M (w.H h).addr) [(c.again, Kd.sa w.n)] = w.D ++ Dn := hDn
    have hDn := List.append_cancel_left hDn
    rw [hHh] at hlo
    obtain ⟨rr, r1, _, r3, r4⟩ := emitR_full (now := w.now) (e := e1) [(c.again, Kd.sa w.n)] (w.H h) (w.M (w.H h).addr) (I.hT h).2.1 hlo c.again (by simp)
    have hlen := emit_len (now := w.now) (e := e1) [(c.again, Kd.sa w.n)] (w.H h) (w.M (w.H h).addr)
    rw [hDn] at r1 hlen
    cases Dn with
    | nil => exact absurd r1 (by simp)
    | cons a t =>
      cases t with
      | nil => rw [List.mem_singleton.1 r1] at r4; exact ⟨a, rfl, by rw [r4]; exact a2⟩
      | cons b t => simp at hlen
  · show (upA w.N w.n (kidN h e1 (i : Int)) w.n).host = _; rw [upA_at]; rfl
/-- nobody is there -/
theorem Inv.disp_no (I : Inv w) (sy : Syn w) (h3 : h < 3) (hr : rc ∈ w.D) (hage : w.now - rc.t ≤ 4) (gok : rc.g.Ok) (hrs : rc.g.flags / 8 * 8 = 0) :
    ∃ w', Out w w' h ((w.H h).sendH rc.src (nobody rc.g)) ((w.H h).sendF rc.src (nobody rc.g)) 3 ∧ NoEff w w' ∧ ∃ e : En, stamp e (nobody rc.g) = nobody rc.g ∧ e.rHost = rc.src ∧ Sent w w' h e [nobody rc.g] := by
  have HI := I.hi h h3
  have i0 : ∃ i, w.seg rc i := by
    cases I.recs rc hr hage with
    | sa a p s => exact ⟨a, s⟩
    | rst k fl => have := gok.flags; omega
    | est a b k m s => exact ⟨a, s⟩
    | syn i s => exact ⟨i, s⟩
  obtain ⟨i, s⟩ := i0
  have hports := I.ports i s.hi
  have hhost := I.hostR i s.hi
  have hsp : 0 ≤ rc.g.sp ∧ rc.g.sp < 16 := by
    rw [s.sp]
    cases hc : (w.N i).client with
    | true => have := hports.2.2.1 hc; omega
    | false => have := (hports.2.2.2 hc).1; omega
  have hdp : 0 ≤ rc.g.dp ∧ rc.g.dp < 16 := by rw [s.dp]; omega
  have hsrc := s.src
  obtain ⟨e, he⟩ : ∃ e : En, e = ⟨0, 2, (nobody rc.g).sp, rc.src, (nobody rc.g).dp, 0, 0, false⟩ := ⟨_, rfl⟩
  obtain ⟨p1, p2⟩ := nobody_ports rc.g
  have heo : e.Ok := by
    rw [he]
    exact ⟨by show 0 ≤ (nobody rc.g).sp ∧ (nobody rc.g).sp < 16; rw [p1]; exact hdp, by show 0 ≤ rc.src ∧ rc.src < 256; omega, by show 0 ≤ (nobody rc.g).dp ∧ (nobody rc.g).dp < 16; rw [p2]; exact hsp, by show -1 ≤ (0 : Int) ∧ (0 : Int) < 4; omega⟩
  have hst : stamp e (nobody rc.g) = nobody rc.g := by rw [he]; rfl
  have herh : e.rHost = rc.src := by rw [he]
  have eH : (w.H h).sendH rc.src (nobody rc.g) = (w.H h).emitH e ([(nobody rc.g, Kd.rst)].map Prod.fst) := by
    simp only [List.map_cons, List.map_nil, Hst.emitH]; rw [hst, herh]
  have eF : (w.H h).sendF rc.src (nobody rc.g) = (w.H h).emitF e ([(nobody rc.g, Kd.rst)].map Prod.fst) := by
    simp only [List.map_cons, List.map_nil, Hst.emitF, List.append_nil]; rw [hst, herh]
  have I' := I.say h3 heo (sy.clk h h3) (L := [(nobody rc.g, Kd.rst)]) (fun g k hg => by
    have hg : (g, k) = _ := List.mem_singleton.1 hg
    cases hg; exact ⟨nobody_ok gok, rfl, nobody_rst _⟩)
  have hHh : (w.say h e [(nobody rc.g, Kd.rst)]).H h = (w.H h).emitH e ([(nobody rc.g, Kd.rst)].map Prod.fst) := upA_at ..
  have hout := Inv.out (w' := w.say h e [(nobody rc.g, Kd.rst)]) I' sy h3 I (e := e) (L := [(nobody rc.g, Kd.rst)]) (k := 3) (by simp) (by rw [hHh]) (by rw [hHh]) (by rw [hHh]; exact Hst.emitH_clock _ _ _) (fun j hj => upA_ne _ _ hj) (fun _ _ => rfl) rfl rfl (fun j hj => sy.tk j hj) (QStep.refl _)
  rw [hHh] at hout
  rw [eH, eF]
  have ec : ∀ j, ((w.say h e [(nobody rc.g, Kd.rst)]).H j).c = (w.H j).c ∧ ((w.say h e [(nobody rc.g, Kd.rst)]).H j).t = (w.H j).t := fun j => by
    by_cases hj : j = h
    · subst hj; rw [hHh]; exact ⟨Hst.emitH_c _ _ _, Hst.emitH_t _ _ _⟩
    · have : (w.say h e [(nobody rc.g, Kd.rst)]).H j = w.H j := upA_ne _ _ hj
      rw [this]; exact ⟨rfl, rfl⟩
  have hse : Sent w (w.say h e [(nobody rc.g, Kd.rst)]) h e [nobody rc.g] := Sent.of I h3 (L := [(nobody rc.g, Kd.rst)]) rfl rfl (by rw [hHh])
  refine ⟨_, hout, ⟨rfl, rfl, fun j _ e' c => host_row w (w.say h e [(nobody rc.g, Kd.rst)]) rfl (fun j => (ec j).1) (fun j => (ec j).2) j e' c, fun j => (ec j).2, rfl, rfl⟩, e, hst, herh, hse⟩
/-- a segment meets a row of host h -/
theorem Inv.disp_row (I : Inv w) (sy : Syn w) (h3 : h < 3) (hr : rc ∈ w.D) (hage : w.now - rc.t ≤ 4) (hd : rc.dst = (h : Int) + 1) (gok : rc.g.Ok) {sd : Int} {e0 : En} (he : (w.H h).t.at sd = some e0) (hk : e0.kind = 2) (ht : e0.tup rc.g.dp rc.src rc.g.sp) :
    ∃ w', Out w w' h ((w.H h).toRowH sd rc.g) ((w.H h).toRowF sd rc.g) 3 ∧ ∃ i, RowEff w w' i ∧ (w.N i).host = (h : Int) ∧ (w'.G i).rd = (w.G i).rd ∧ (w'.N i).sent = (w.N i).sent ∧ (w'.N i).closed = (w.N i).closed ∧ w.row i e0 ((w.H h).c e0.slot.toNat) ∧ (∃ e1, w'.row i e1 (((w.H h).c e0.slot.toNat).input rc.g).1) ∧ Sent w w' h e0 (((w.H h).c e0.slot.toNat).input rc.g).2 ∧ ∀ Dn, w'.D = w.D ++ Dn → ∀ r', r' ∈ Dn → ∃ s, s ∈ (((w.H h).c e0.slot.toNat).input rc.g).2 ∧ r'.g = stamp e0 s := by
  obtain ⟨en1, er1⟩ := ent_of he
  obtain ⟨i, i1, i2, i3, i4, i5, r⟩ := I.end_of h3 he hk
  obtain ⟨t', q', L, g1, x1, hL, hD, hs, hc, hlen, htab⟩ := I.to_row sy hr hage i1 r (by rw [i2]; exact hd) ht gok
  rw [i4, i5, i3] at htab
  have HI := I.hi h h3
  -- the table behind
  have tb : ∃ e1, Tab w i e0 e1 t' q' ∧ t' = (w.H h).rowT sd (((w.H h).c e0.slot.toNat).input rc.g).1 := by
    unfold Hst.rowT
    rw [en1]
    rcases htab with ⟨a, b, c⟩ | ⟨a, b, c⟩
    · rw [if_neg c, a, b]
      have T := Tab.same I i1 r
      rw [i4, i5] at T
      exact ⟨e0, T, rfl⟩
    · rw [if_pos a, b, c]
      obtain ⟨u, u1, _, u2, u3, u4, u5, _⟩ := HI.good.ready he a.1 a.2.1
      have uk := HI.k.ready sd
      have uo := HI.good.ok_ready HI.tok he a.1 a.2.1
      rw [u1] at uk uo ⊢
      exact ⟨{ e0 with ready := true }, ⟨u2, uk, uo, by rw [i3, i4]; exact u5, ⟨rfl, rfl, rfl, rfl, rfl, rfl⟩, by rw [i4]; exact u3⟩, rfl⟩
  obtain ⟨e1, T, ht'⟩ := tb
  obtain ⟨r1, r2⟩ := put_row (c1 := (((w.H h).c e0.slot.toNat).input rc.g).1) (L := L) (g1 := g1) (q' := q') I i1 r T.at_ T.sim hD.id
  have hHh : (w.put i e0 (((w.H h).c e0.slot.toNat).input rc.g).1 t' q' L g1 x1).H h = { (w.H h).emitH e0 (L.map Prod.fst) with c := upA (w.H h).c e0.slot.toNat (((w.H h).c e0.slot.toNat).input rc.g).1, t := t' } := by
    have e1 : (w.put i e0 (((w.H h).c e0.slot.toNat).input rc.g).1 t' q' L g1 x1).H h = { (w.host i).emitH e0 (L.map Prod.fst) with c := upA (w.host i).c e0.slot.toNat (((w.H h).c e0.slot.toNat).input rc.g).1, t := t' } := by
      rw [← i5]; exact upA_at ..
    rw [e1, i4]
  have hlenL : L.length ≤ 3 := by
    have h2 := congrArg List.length hL
    rw [List.length_map] at h2; omega
  have hout := Inv.out (w' := w.put i e0 (((w.H h).c e0.slot.toNat).input rc.g).1 t' q' L g1 x1) hD.inv sy h3 I (e := e0) (L := L) (k := 3) hlenL (by rw [hHh]) (by rw [hHh]) (by rw [hHh]; exact Hst.emitH_clock _ _ _) (fun j hj => upA_ne _ _ (by rw [i5]; exact hj)) (fun j hj => upA_ne _ _ (by rw [i5]; exact hj)) rfl (by show w.D ++ emitR w.now e0 (w.host i) (w.M (w.host i).addr) L = _; rw [i4]) (fun j hj => by
    by_cases hji : j = i
    · subst hji; exact put_tk
    · rw [put_tkn hji]; exact sy.tk j hj) (by
    have e1 : (w.put i e0 (((w.H h).c e0.slot.toNat).input rc.g).1 t' q' L g1 x1).q h = q' := by rw [← i5]; exact upA_at ..
    rw [e1]
    rcases htab with ⟨_, b, _⟩ | ⟨_, _, c⟩
    · rw [b]; exact QStep.refl _
    · exact .inr ⟨_, _, c⟩)
  have hse : Sent w (w.put i e0 (((w.H h).c e0.slot.toNat).input rc.g).1 t' q' L g1 x1) h e0 (((w.H h).c e0.slot.toNat).input rc.g).2 := Sent.of I h3 hL (by show w.D ++ emitR w.now e0 (w.host i) (w.M (w.host i).addr) L = _; rw [i4]) (by rw [hHh])
  rw [hHh, hL] at hout
  have eH : (w.H h).toRowH sd rc.g = { (w.H h).emitH e0 (((w.H h).c e0.slot.toNat).input rc.g).2 with c := upA (w.H h).c e0.slot.toNat (((w.H h).c e0.slot.toNat).input rc.g).1, t := t' } := by
    unfold Hst.toRowH; rw [en1, ht']
  have eF : (w.H h).toRowF sd rc.g = (w.H h).emitF e0 (((w.H h).c e0.slot.toNat).input rc.g).2 := by unfold Hst.toRowF; rw [en1]
  rw [eH, eF]
  have hNi : (w.put i e0 (((w.H h).c e0.slot.toNat).input rc.g).1 t' q' L g1 x1).N i = x1 := put_N
  refine ⟨_, hout, i, ⟨i1, rfl, fun j hj => put_Nn hj, by rw [hNi]; exact hD.id, ⟨e0, e1, _, _, r, r1, T.sim, by rw [hNi]; exact hD.wo, by rw [hNi]; exact hD.pe, hD.may, hD.why, fun x => ?_⟩, r2, fun j hj => put_Gn hj, by rw [put_G]; exact hD.gle, ?_⟩, i2, by rw [put_G]; exact hD.grd, by rw [hNi]; exact hs, by rw [hNi]; exact hc, r, ⟨e1, r1⟩, hse, fun Dn hDn r' hr' => ?_⟩
  · have : (w.put i e0 (((w.H h).c e0.slot.toNat).input rc.g).1 t' q' L g1 x1).host i = (w.put i e0 (((w.H h).c e0.slot.toNat).input rc.g).1 t' q' L g1 x1).H h := by
      unfold W.host; rw [hNi, hD.id.host, i5]
    rw [this, hHh]
    exact T.at_ x
  · have : (w.put i e0 (((w.H h).c e0.slot.toNat).input rc.g).1 t' q' L g1 x1).host i = (w.put i e0 (((w.H h).c e0.slot.toNat).input rc.g).1 t' q' L g1 x1).H h := by
      unfold W.host; rw [hNi, hD.id.host, i5]
    rw [this, hHh]; exact T.nsd
  · have hDn : w.D ++ emitR w.now e0 (w.host i) (w.M (w.host i).addr) L = w.D ++ Dn := hDn
    rw [← List.append_cancel_left hDn] at hr'
    obtain ⟨g, kd, g1, _, _, _, g5, _⟩ := emitR_mem _ _ _ _ hr'
    refine ⟨g, ?_, g5⟩
    rw [← hL]; exact List.mem_map.2 ⟨_, g1, rfl⟩
theorem Inv.disp (I : Inv w) (sy : Syn w) (h3 : h < 3) (hr : rc ∈ w.D) (hage : w.now - rc.t ≤ 4) (hd : rc.dst = (h : Int) + 1) (gok : rc.g.Ok) (hn : (w.H h).t.nextSd < 1152921504606846976) :
    ∃ w', Out w w' h ((w.H h).dispH rc.src rc.g) ((w.H h).dispF rc.src rc.g) 3 ∧ (NoEff w w' ∨ (∃ i, RowEff w w' i ∧ (w.N i).host = (h : Int) ∧ (w'.G i).rd = (w.G i).rd ∧ (w'.N i).sent = (w.N i).sent ∧ (w'.N i).closed = (w.N i).closed) ∨ BornEff w w' h) ∧ Disp w w' h rc := by
  have HI := I.hi h h3
  have inj : ∀ i j e e' c c', i < w.n → j < w.n → (w.N i).host = (h : Int) → (w.N j).host = (h : Int) → w.row i e c → w.row j e' c' → e.tup rc.g.dp rc.src rc.g.sp → e'.tup rc.g.dp rc.src rc.g.sp → i = j := fun i j e e' c c' hi hj h1 h2 ri rj t1 t2 => by
    have a := I.tup i hi e c ri
    have b := I.tup j hj e' c' rj
    exact I.last hi hj ri rj ⟨h1.trans h2.symm, a.1.symm.trans (t1.1.trans (t2.1.symm.trans b.1)), a.2.1.symm.trans (t1.2.1.trans (t2.2.1.symm.trans b.2.1)), a.2.2.symm.trans (t1.2.2.trans (t2.2.2.symm.trans b.2.2))⟩
  have rowat : ∀ i e c, i < w.n → (w.N i).host = (h : Int) → w.row i e c → (w.H h).t.at (w.N i).sd = some e := fun i e c hi hh r => by
    have hw : w.host i = w.H h := by unfold W.host; rw [hh]; simp
    rw [← hw]; exact r.at_
  have lis0 : (∃ sd f, (w.H h).t.at sd = some f ∧ f.kind = 1 ∧ f.lPort = rc.g.dp) → ¬ (w.H h).t.lis rc.g.dp = 0 := fun ⟨sd, f, a, b, c⟩ => by
    rcases HI.good.r.lis_eq rc.g.dp with ⟨_, q⟩ | ⟨_, _, _, _, _, q⟩
    · exact absurd c (q _ _ a b)
    · omega
  unfold Hst.dispH Hst.dispF
  rcases HI.good.lookup rc.g.dp rc.src rc.g.sp with ⟨l0, lno⟩ | ⟨e0, l1, l2, l3, l4, l5⟩
  · have nl : ¬ ¬ (w.H h).t.lookup rc.g.dp rc.src rc.g.sp = 0 := fun k => k l0
    rw [if_neg nl, if_neg nl]
    by_cases hs : rc.g.flags = 1 ∧ ¬ (w.H h).t.lis rc.g.dp = 0
    · rw [if_pos hs, if_pos hs]
      obtain ⟨w', a, ⟨b, bn⟩ | bx⟩ := I.disp_lis sy h3 hr hage hd gok hn l0 hs.1 hs.2
      · exact ⟨w', a, .inl b, fun i e c hi hh r t => absurd t (lno _ _ (rowat i e c hi hh r) r.kind), fun i e c hi r _ => (b.rows i hi e c).2 r, fun _ k => absurd hs.1 k, fun i e c hi hh r t => absurd t (lno _ _ (rowat i e c hi hh r) r.kind), fun hb => absurd hb bn⟩
      · have b := bx.e
        exact ⟨w', a, .inr (.inr b), fun i e c hi hh r t => absurd t (lno _ _ (rowat i e c hi hh r) r.kind), fun i e c hi r _ => (b.rows i hi e c).2 r, fun _ k => absurd hs.1 k, fun i e c hi hh r t => absurd t (lno _ _ (rowat i e c hi hh r) r.kind), fun _ _ _ => bx⟩
    · rw [if_neg hs, if_neg hs]
      by_cases hrs : ¬ rc.g.flags / 8 * 8 = 0
      · rw [if_pos hrs, if_pos hrs]
        obtain ⟨w', a, b⟩ := I.disp_stay sy h 3
        exact ⟨w', a, .inl b, fun i e c hi hh r t => absurd t (lno _ _ (rowat i e c hi hh r) r.kind), fun i e c hi r _ => (b.rows i hi e c).2 r, fun _ _ k => absurd k hrs, fun i e c hi hh r t => absurd t (lno _ _ (rowat i e c hi hh r) r.kind), fun hb hf hli => absurd ⟨hf, fun k => lis0 hli k⟩ hs⟩
      · rw [if_neg hrs, if_neg hrs]
        obtain ⟨w', a, b, b2⟩ := I.disp_no sy h3 hr hage gok (Decidable.not_not.1 hrs)
        exact ⟨w', a, .inl b, fun i e c hi hh r t => absurd t (lno _ _ (rowat i e c hi hh r) r.kind), fun i e c hi r _ => (b.rows i hi e c).2 r, fun _ _ _ => b2, fun i e c hi hh r t => absurd t (lno _ _ (rowat i e c hi hh r) r.kind), fun hb hf hli => absurd ⟨hf, fun k => lis0 hli k⟩ hs⟩
  · have nl : ¬ (w.H h).t.lookup rc.g.dp rc.src rc.g.sp = 0 := by omega
    rw [if_pos nl, if_pos nl]
    obtain ⟨w', a, j, b1, b2, b3, b4, b5, b6, b7, b8, b9⟩ := I.disp_row sy h3 hr hage hd gok l1 l2 l3
    refine ⟨w', a, .inr (.inl ⟨j, b1, b2, b3, b4, b5⟩), fun i e c hi hh r t => ?_, fun i e c hi r hno => ?_, fun k => absurd l3 (k _ _ l1 l2), fun i e c hi hh r t => ?_, fun k => absurd l2 (k _ _ l1)⟩
    · have hij := inj i j e e0 c _ hi b1.hi hh b2 r b6 t l3
      subst hij
      obtain ⟨q1, q2⟩ := r.inj b6
      subst q1 q2
      exact ⟨b7, b8⟩
    · by_cases hij : i = j
      · subst hij
        obtain ⟨q1, q2⟩ := r.inj b6
        subst q1 q2
        exact absurd ⟨b2, l3⟩ hno
      · exact (b1.rows i hi hij e c).2 r
    · have hij := inj i j e e0 c _ hi b1.hi hh b2 r b6 t l3
      subst hij
      obtain ⟨q1, q2⟩ := r.inj b6
      subst q1 q2
      exact ⟨b1.n, b9⟩
end
end Go.Proofs.Qxb6500351aGreat
