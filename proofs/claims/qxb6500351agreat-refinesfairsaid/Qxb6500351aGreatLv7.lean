/- THE WORK, part 7: every pair of ends goes on. No Go in sight. -/
import Derived.Test.Qxb6500351aGreatLv6
set_option linter.unusedVariables false
set_option linter.unusedSimpArgs false
namespace Go.Proofs.Qxb6500351aGreat
open Go.Eng
/-- the end has not failed -/
def Nf (L : Nat → Ned) (v : Nat) : Prop := (L v).state = 4 → (L v).why = 0
theorem Keep.nf {m : Nat} {L L' : Nat → Ned} (k : Keep m L L') {v : Nat} (hv : v < m) (h : Nf L' v) : Nf L v := fun h4 => by
  obtain ⟨a, b⟩ := (k v hv).1 h4
  by_cases hw : (L v).why = 0
  · exact hw
  · exact absurd (h a) (b hw)
theorem Nf.row {w : W} {L : Nat → Ned} {v : Nat} (n : NetI w L v) (h : Nf L v) : ∀ e c, w.row v e c → c.x.st = 4 → c.x.why = 0 := fun e c r h4 => by
  obtain ⟨_, a, b, _⟩ := n.row e c r
  rw [← b]; exact h (a.trans h4)
theorem Nf.gone {w : W} {L : Nat → Ned} {v : Nat} (n : NetI w L v) (h : Nf L v) (hv : ∀ e c, ¬ w.row v e c) : (w.G v).fa = true := by
  obtain ⟨_, a⟩ := n.norow hv
  exact (n.c.fin a (h a)).1
/-- a pair with work left -/
structure Pr (w : W) (L : Nat → Ned) (s v : Nat) (e : En) (c : Conn) : Prop where
  m : w.mut s v
  r : w.row s e c
  st : c.x.st = 3
  nf : Nf L v
  lt : (w.G s).U < w.goal s v
/-- at a round's start: something is owed within m rounds -/
def Tk (w : W) (P : List Rc) (s v : Nat) (c : Conn) (m : Int) : Prop :=
  (1 ≤ m ∧ ∃ r, r ∈ P ∧ (AckTok w r s (w.G s).U ∨ RstTok w r s v)) ∨ (2 ≤ m ∧ ∃ r, r ∈ P ∧ DatTok w r s v (w.G s).U) ∨ (0 < c.x.timer ∧ c.x.timer + 2 ≤ m)
def Live (w : W) (L : Nat → Ned) (P : List Rc) (R : Int) : Prop := ∀ s v e c, Pr w L s v e c → ∃ m, Tk w P s v c m ∧ R + m + 3 * (w.goal s v - (w.G s).U - 1) ≤ 108
/-- within a round: P is to come, Q was put out -/
inductive Md (w : W) (P Q : List Rc) (s v : Nat) (c : Conn) (m n : Int) : Prop where
  | done (h : n < (w.G s).U) (f : Fresh c)
  | ack (h : n = (w.G s).U) (t : ∃ r, r ∈ P ∧ (AckTok w r s n ∨ RstTok w r s v))
  | dat (h : n = (w.G s).U) (m2 : 2 ≤ m) (t : (∃ r, r ∈ P ∧ DatTok w r s v n) ∨ ∃ r, r ∈ Q ∧ (AckTok w r s n ∨ RstTok w r s v))
  | tim (h : n = (w.G s).U) (t0 : 0 < c.x.timer) (t : c.x.timer + 2 ≤ m)
def Mid (w : W) (L : Nat → Ned) (P Q : List Rc) (R : Int) : Prop := ∀ s v e c, Pr w L s v e c → ∃ m n, 1 ≤ m ∧ n ≤ (w.G s).U ∧ R + m + 3 * (w.goal s v - n - 1) ≤ 108 ∧ Md w P Q s v c m n
theorem Live.mid {w : W} {L : Nat → Ned} {P : List Rc} {R : Int} (h : Live w L P R) : Mid w L P [] R := fun s v e c p => by
  obtain ⟨m, t, b⟩ := h s v e c p
  rcases t with ⟨t1, t2⟩ | ⟨t1, t2⟩ | ⟨t1, t2⟩
  · exact ⟨m, _, t1, Int.le_refl _, b, .ack rfl t2⟩
  · exact ⟨m, _, by omega, Int.le_refl _, b, .dat rfl t1 (.inl t2)⟩
  · exact ⟨m, _, by omega, Int.le_refl _, b, .tim rfl t1 t2⟩
section
variable {w w' : W} {L L' : Nat → Ned}
/-- a pair with work left had work left -/
theorem Pr.back (I : Inv w) (I' : Inv w') (E : Ev w w') (k : Keep w.n L L') {s v : Nat} {e' : En} {c' : Conn} (p : Pr w' L' s v e' c') : ∃ e c, Pr w L s v e c := by
  rcases E.opn I I' p.m p.r p.st with ⟨m, e, c, r, st⟩ | ⟨z1, z2⟩
  · refine ⟨e, c, m, r, st, k.nf m.hp p.nf, ?_⟩
    have := p.lt
    rw [goal_ev E m] at this
    have := (E.g s m.hi).1.U
    omega
  · exfalso
    have gv := I'.gh v p.m.hp
    have gs := I'.gh s p.m.hi
    have := p.lt
    rw [goal_none z1 z2 gv.rd.1] at this
    have h1 := gs.u0
    have := b2_b (w'.G s).fa
    unfold Gh.U at *
    omega
/-- A RECORD COMES WHOLE -/
theorem Mid.step {h : Nat} {r : Rc} {Dn P Q : List Rc} {R t : Int} (d : DStep w w' h r Dn) (NI : ∀ i, i < w.n → NetI w L i) (k : Keep w.n L L') (keep : ∀ i e c, i < w.n → w.row i e c → ∃ e' c', w'.row i e' c') (bb : Bb w t) (bq : Bq w t) (ht : t + 41 ≤ w.now) (M : Mid w L (r :: P) Q R) : Mid w' L' P (Q ++ Dn) R := fun s v e' c' p' => by
  have I := d.I
  obtain ⟨e, c, p⟩ := p'.back I d.I' d.ev k
  obtain ⟨m, n, m1, hn, b, md⟩ := M s v e c p
  obtain ⟨s1, s2, s3, s4, s5, s6⟩ := d.sndr p.m p.r p.st p'.r p'.st
  refine ⟨m, n, m1, by omega, by rw [goal_ev d.ev p.m]; exact b, ?_⟩
  by_cases hU : (w.G s).U < (w'.G s).U
  · exact .done (by omega) (s3 hU)
  have hU : (w'.G s).U = (w.G s).U := by omega
  have evA : ∀ r, AckTok w r s n ∨ RstTok w r s v → AckTok w' r s n ∨ RstTok w' r s v := fun r t => by
    rcases t with t | t
    · exact .inl (t.ev d.ev p.m.hi)
    · exact .inr (t.ev d.ev I d.I' p.m)
  cases md with
  | done h f => exact .done (by omega) (s2 f)
  | ack h t =>
    obtain ⟨r1, r2, r3⟩ := t
    rcases List.mem_cons.1 r2 with q | q
    · subst q
      rcases r3 with r3 | r3
      · have := s5 n hn r3; omega
      · exact absurd r3 s6
    · exact .ack (by omega) ⟨r1, q, evA r1 r3⟩
  | dat h m2 t =>
    rcases t with ⟨r1, r2, r3⟩ | ⟨r1, r2, r3⟩
    · rcases List.mem_cons.1 r2 with q | q
      · subst q
        obtain ⟨r', q1, q2⟩ := d.rcvr p.m p.r p.st h.symm (by have := p.lt; omega) (Nf.row (NI v p.m.hp) p.nf) r3 (fun hv => I.norow d.sy bb bq ht p.m p.r hv)
        exact .dat (by omega) m2 (.inr ⟨r', List.mem_append_right _ q1, q2⟩)
      · exact .dat (by omega) m2 (.inl ⟨r1, q, r3.ev d.ev I d.I' keep p.m⟩)
    · exact .dat (by omega) m2 (.inr ⟨r1, List.mem_append_left _ r2, evA r1 r3⟩)
  | tim h t0 t => 
    have := s4 hU t0
    exact .tim (by omega) (by omega) (by omega)
/-- nothing happens to the ends -/
theorem Mid.noeff {P Q : List Rc} {R : Int} (I : Inv w) (I' : Inv w') (E : Ev w w') (e : NoEff w w') (k : Keep w.n L L') (M : Mid w L P Q R) : Mid w' L' P Q R := fun s v e' c' p' => by
  obtain ⟨e0, c0, p⟩ := p'.back I I' E k
  have r0 := (e.rows s p.m.hi e' c').1 p'.r
  obtain ⟨q1, q2⟩ := r0.inj p.r
  subst q1 q2
  obtain ⟨m, n, m1, hn, b, md⟩ := M s v e' c' p
  have hG : w'.G = w.G := e.G
  refine ⟨m, n, m1, by rw [hG]; exact hn, by rw [goal_ev E p.m]; exact b, ?_⟩
  have evA : ∀ r, AckTok w r s n ∨ RstTok w r s v → AckTok w' r s n ∨ RstTok w' r s v := fun r t => by
    rcases t with t | t
    · exact .inl (t.ev E p.m.hi)
    · exact .inr (t.ev E I I' p.m)
  cases md with
  | done h f => exact .done (by rw [hG]; exact h) f
  | ack h t =>
    obtain ⟨r1, r2, r3⟩ := t
    exact .ack (by rw [hG]; exact h) ⟨r1, r2, evA r1 r3⟩
  | dat h m2 t =>
    rcases t with ⟨r1, r2, r3⟩ | ⟨r1, r2, r3⟩
    · exact .dat (by rw [hG]; exact h) m2 (.inl ⟨r1, r2, r3.ev E I I' (fun i e1 c1 hi r => ⟨e1, c1, (e.rows i hi e1 c1).2 r⟩) p.m⟩)
    · exact .dat (by rw [hG]; exact h) m2 (.inr ⟨r1, r2, evA r1 r3⟩)
  | tim h t0 t => exact .tim (by rw [hG]; exact h) t0 t
/-- a record for nobody is passed over -/
theorem Mid.skip {r : Rc} {P Q : List Rc} {R : Int} (I : Inv w) (hd : ¬ (1 ≤ r.dst ∧ r.dst ≤ 3)) (M : Mid w L (r :: P) Q R) : Mid w L P Q R := fun s v e c p => by
  obtain ⟨m, n, m1, hn, b, md⟩ := M s v e c p
  have no : ∀ i, i < w.n → ¬ ToS w r i := fun i hi t => by
    have := I.hostR i hi
    have := t.dst
    omega
  refine ⟨m, n, m1, hn, b, ?_⟩
  cases md with
  | done h f => exact .done h f
  | ack h t =>
    obtain ⟨r1, r2, r3⟩ := t
    rcases List.mem_cons.1 r2 with q | q
    · subst q
      rcases r3 with r3 | r3
      · exact absurd r3.to (no s p.m.hi)
      · exact absurd r3.to (no s p.m.hi)
    · exact .ack h ⟨r1, q, r3⟩
  | dat h m2 t =>
    rcases t with ⟨r1, r2, r3⟩ | t
    · rcases List.mem_cons.1 r2 with q | q
      · subst q; exact absurd r3.to (no v p.m.hp)
      · exact .dat h m2 (.inl ⟨r1, q, r3⟩)
    · exact .dat h m2 (.inr t)
  | tim h t0 t => exact .tim h t0 t
end
/-! ### a tick -/
theorem Conn.pump_rcv {c : Conn} (h : c.Ok) : c.pump.1.rcvNxt = c.rcvNxt := by
  have key : c.pump.1.r = c.r ∧ c.pump.1.x.peerFin = c.x.peerFin := by
    unfold Conn.pump
    split
    · dsimp only
      have e1 : c.pumpL.1.r = c.r ∧ c.pumpL.1.x.peerFin = c.x.peerFin := by
        rw [Conn.pumpL_eq h]
        split
        · exact ⟨rfl, rfl⟩
        · exact ⟨rfl, (Cs.arm_same ({ c.x with credit := c.x.credit - c.pumpN } : Cs)).2.2.2.2.2.1⟩
      unfold Conn.pumpE
      split
      · exact ⟨e1.1, (Cs.arm_same _).2.2.2.2.2.1.trans e1.2⟩
      · exact e1
    · exact ⟨rfl, rfl⟩
  unfold Conn.rcvNxt
  rw [key.1, key.2]
theorem Conn.tick_rcv {c : Conn} (h : c.Ok) (st : c.x.st = 3) (h3 : c.tick.1.x.st = 3) : c.tick.1.rcvNxt = c.rcvNxt := by
  obtain ⟨o1, o2, o3, o4, o5, o6, o7⟩ := h.x
  unfold Conn.tick at h3 ⊢
  rw [if_neg (by omega), if_neg (by omega)] at h3 ⊢
  by_cases ht : 0 < c.x.timer
  · rw [if_pos ht] at h3 ⊢
    dsimp only at h3 ⊢
    by_cases ht0 : c.x.timer - 1 = 0
    · rw [if_pos ht0] at h3 ⊢
      by_cases hr : c.x.retries = 3
      · rw [if_pos hr] at h3; exact absurd (show (4 : Int) = 3 from h3) (by decide)
      · rw [if_neg hr] at h3 ⊢
        generalize hx : ({ c.x with credit := 12, timer := c.x.timer - 1, retries := c.x.retries + 1 } : Cs) = x at h3 ⊢
        have hxo : x.Ok := by rw [← hx]; exact ⟨o1, o2, o3, by dsimp only; omega, by dsimp only; omega, by dsimp only; omega, o7⟩
        have ar := Cs.arm_same x
        show (⟨x.arm, c.s, c.r⟩ : Conn).pump.1.rcvNxt = _
        refine (Conn.pump_rcv (c := ⟨x.arm, c.s, c.r⟩) ⟨Cs.ok_arm hxo, h.s, h.r⟩).trans ?_
        unfold Conn.rcvNxt
        dsimp only
        rw [ar.2.2.2.2.2.1, ← hx]
    · rw [if_neg ht0]
      exact Conn.pump_rcv (c := ⟨{ c.x with credit := 12, timer := c.x.timer - 1 }, c.s, c.r⟩) ⟨⟨o1, o2, o3, by dsimp only; omega, o5, by dsimp only; omega, o7⟩, h.s, h.r⟩
  · rw [if_neg ht]
    exact Conn.pump_rcv (c := ⟨{ c.x with credit := 12 }, c.s, c.r⟩) ⟨⟨o1, o2, o3, o4, o5, by dsimp only; omega, o7⟩, h.s, h.r⟩
section
variable {w w1 w2 w3 w' : W} {L L' : Nat → Ned}
/-- what a tick does for a pair with work left -/
theorem WTick.pair (I : Inv w) (T : WTick w w1 w2 w3 w') (NI' : ∀ i, i < w'.n → NetI w' L' i) {Dn : List Rc} (hD : w'.D = w.D ++ Dn) (hl : ∀ h, h < 3 → (w'.H h).lost = (w.H h).lost) {s v : Nat} {e e' : En} {c c' : Conn} (p : Pr w L s v e c) (p' : Pr w' L' s v e' c') :
    (w'.G s).U = (w.G s).U ∧ ((2 ≤ c.x.timer ∧ c'.x.timer = c.x.timer - 1) ∨ (c.x.timer ≤ 1 ∧ ∃ r, r ∈ Dn ∧ DatTok w' r s v (w'.G s).U)) := by
  have E := T.ev
  have I' := T.inv
  have hi := p.m.hi
  obtain ⟨q1, q0, q2⟩ := T.rowT I hi p.r
  have q2 := q2 Dn hD hl
  have hc' : c.tick.1.x.st ≠ 0 → e' = e ∧ c' = c.tick.1 := fun k => p'.r.inj (q1 k)
  have rw0 : Rel c (w.G s) (w.N s).sent (w.G v) (w.N v).sent ∧ Run c (w.G s) ∧ c.x.weClosed = (w.N s).closed := by
    cases I.sta s hi e c p.r with
    | syn cl pe o => have := o.st; have := p.st; omega
    | srv q cl pe o => have := o.st; have := p.st; omega
    | well q mm rel wl wc =>
      have : v = q := p.m.right mm
      subst this
      rcases wl.st with k | k
      · exact ⟨rel, k.1, wc⟩
      · have := k.1; have := p.st; omega
    | bad st4 => have := p.st; omega
  obtain ⟨rel, rn, wc⟩ := rw0
  have hgl : (w.G s).U < (w.N s).sent.length + b2 c.x.weClosed := by
    have hlt := p.lt
    rw [wc]
    have := b2_b (w.N s).closed
    unfold W.goal at hlt
    split at hlt <;> omega
  rcases rel.tickT rn hgl with k | ⟨k1, k2, k3, k4, k5⟩ | ⟨k1, k2, k3, σ, s1, s2⟩
  · have := (hc' (by rw [k]; decide)).2
    rw [← this] at k
    have := p'.st; omega
  · have hcc := (hc' (by rw [k1]; decide)).2
    refine ⟨I.U_eq I' E p.m p.r p.st p'.r p'.st (n := (w.G s).U) (by omega) (by rw [hcc, k2, rel.sndUna]), .inl ⟨k3, by rw [hcc]; exact k4⟩⟩
  · have hcc := (hc' (by rw [k1]; decide)).2
    have hU := I.U_eq I' E p.m p.r p.st p'.r p'.st (n := (w.G s).U) (by omega) (by rw [hcc, k2, rel.sndUna])
    refine ⟨hU, .inr ⟨k3, ?_⟩⟩
    obtain ⟨r', r1, r2, r3, r4⟩ := q2 σ s1
    have tu := I.tup s hi e c p.r
    have hm := I.mir_of_mut p.m
    have iv := E.id v p.m.hp
    refine ⟨r', r1, ⟨⟨?_, ?_, ?_, ?_⟩, ?_, ?_, ?_⟩⟩
    · rw [iv.host, r3, tu.2.1]; exact hm.1.symm
    · rw [iv.rh, r2]; exact hm.2.1
    · rw [iv.lp, r4]; show e.rPort = _; rw [tu.2.2]; exact hm.2.2.2
    · rw [iv.rp, r4]; show e.lPort = _; rw [tu.1]; exact hm.2.2.1
    · rw [hU, (E.se s hi).1, r4]
      exact s2.kind
    · rw [hU, (E.g s hi).1.iss, r4]; exact s2.seq
    · by_cases hrv : ∃ e c, w'.row v e c
      · exact .inl hrv
      · right
        have hno : ∀ e c, ¬ w'.row v e c := fun e c k => hrv ⟨e, c, k⟩
        have hfa := Nf.gone (NI' v p'.m.hp) p'.nf hno
        refine ⟨(I'.pair v s p'.m.symm).fa hfa, ?_⟩
        have rel' : Rel c' (w'.G s) (w'.N s).sent (w'.G v) (w'.N v).sent := by
          cases I'.sta s p'.m.hi e' c' p'.r with
          | syn cl pe o => have := o.st; have := p'.st; omega
          | srv q cl pe o => have := o.st; have := p'.st; omega
          | well q mm rel wl wc =>
            have : v = q := p'.m.right mm
            subst this; exact rel
          | bad st4 => have := p'.st; omega
        have h1 := rel'.rcvNxt
        rw [hcc, Conn.tick_rcv rel.ok p.st k1, rel.rcvNxt, (E.g v p.m.hp).1.iss] at h1
        have h2 := rel.rdq; have h3 := rel'.rdq
        have h4 := rel.ok.r.av0; have h5 := rel'.ok.r.av1
        have h6 := (E.g s hi).2
        have h7 := (E.g s hi).1.R
        have h8 := b2_b (w.G s).pf; have h9 := b2_b (w'.G s).pf
        have hR : (w'.G s).R = (w.G s).R := by
          have a : (w.G s).R = (w.G s).r + b2 (w.G s).pf := rfl
          have b : (w'.G s).R = (w'.G s).r + b2 (w'.G s).pf := rfl
          have := rel.ok.r.av1
          omega
        rw [hR, (E.g v p.m.hp).1.iss, r4]
        exact s2.ack
/-- A ROUND's END -/
theorem Mid.tick (I : Inv w) (T : WTick w w1 w2 w3 w') (NI' : ∀ i, i < w'.n → NetI w' L' i) (k : Keep w.n L L') {Dn Q : List Rc} (hD : w'.D = w.D ++ Dn) (hl : ∀ h, h < 3 → (w'.H h).lost = (w.H h).lost) {R : Int} (M : Mid w L [] Q R) : Live w' L' (Q ++ Dn) (R + 1) := fun s v e' c' p' => by
  have E := T.ev
  obtain ⟨e, c, p⟩ := p'.back I T.inv E k
  obtain ⟨m, n, m1, hn, b, md⟩ := M s v e c p
  obtain ⟨hU, ab⟩ := T.pair I NI' hD hl p p'
  have evA : ∀ r, AckTok w r s n ∨ RstTok w r s v → AckTok w' r s n ∨ RstTok w' r s v := fun r t => by
    rcases t with t | t
    · exact .inl (t.ev E p.m.hi)
    · exact .inr (t.ev E I T.inv p.m)
  rw [goal_ev E p.m, hU]
  -- by the timer alone
  have timer : ∀ m', (2 ≤ c.x.timer → c.x.timer - 1 + 2 ≤ m') → 2 ≤ m' → Tk w' (Q ++ Dn) s v c' m' := fun m' h1 h2 => by
    rcases ab with ⟨a1, a2⟩ | ⟨_, r, r1, r2⟩
    · have := h1 a1
      exact .inr (.inr ⟨by omega, by omega⟩)
    · exact .inr (.inl ⟨h2, r, List.mem_append_right _ r1, r2⟩)
  cases md with
  | done h f => 
    have := f.t
    exact ⟨3, timer 3 (by omega) (by omega), by omega⟩
  | ack h t => obtain ⟨r1, r2, _⟩ := t; simp at r2
  | dat h m2 t =>
    rcases t with ⟨r1, r2, _⟩ | ⟨r1, r2, r3⟩
    · simp at r2
    · refine ⟨1, .inl ⟨Int.le_refl _, r1, List.mem_append_left _ r2, ?_⟩, by omega⟩
      rw [hU, ← h]; exact evA r1 r3
  | tim h t0 t => exact ⟨m - 1, timer (m - 1) (by omega) (by omega), by omega⟩
/-- THE FIRST ROUND that counts -/
theorem WTick.live (I : Inv w) (T : WTick w w1 w2 w3 w') (NI' : ∀ i, i < w'.n → NetI w' L' i) (k : Keep w.n L L') {Dn Q : List Rc} (hD : w'.D = w.D ++ Dn) (hl : ∀ h, h < 3 → (w'.H h).lost = (w.H h).lost) : Live w' L' (Q ++ Dn) 42 := fun s v e' c' p' => by
  have E := T.ev
  obtain ⟨e, c, p⟩ := p'.back I T.inv E k
  obtain ⟨hU, ab⟩ := T.pair I NI' hD hl p p'
  have tm := (I.row_c p.m.hi p.r).x.timer
  have hS := I.U_b p.m p.r (by have := p.st; omega)
  have gs := I.gh s p.m.hi
  have hgl : w.goal s v ≤ (w.G s).U + 17 := by
    have := b2_b (w.N s).closed
    have := b2_b (w.G s).fa
    have : (w.G s).U = (w.G s).u + b2 (w.G s).fa := rfl
    unfold W.goal
    split <;> omega
  rw [goal_ev E p.m, hU]
  rcases ab with ⟨a1, a2⟩ | ⟨_, r, r1, r2⟩
  · exact ⟨17, .inr (.inr ⟨by omega, by omega⟩), by omega⟩
  · exact ⟨2, .inr (.inl ⟨by omega, r, List.mem_append_right _ r1, r2⟩), by omega⟩
end
end Go.Proofs.Qxb6500351aGreat
