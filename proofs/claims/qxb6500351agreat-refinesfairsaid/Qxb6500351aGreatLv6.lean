/- THE WORK, part 6: ticks; what the wire owes to each pair of ends. No Go in sight. -/
import Derived.Test.Qxb6500351aGreatLv5
set_option linter.unusedVariables false
set_option linter.unusedSimpArgs false
namespace Go.Proofs.Qxb6500351aGreat
open Go.Eng
section
variable {w w1 w2 w3 w' : W}
theorem WTick.ev (T : WTick w w1 w2 w3 w') : Ev w w' := by
  have hr : ∀ i e' c', i < w.n → w'.row i e' c' → ∃ e c, w.row i e c ∧ (c'.x.st = 3 → c.x.st ≠ 4) := fun i e' c' hi r => by
    by_cases h : ∃ e c, w.row i e c
    · obtain ⟨e, c, r0⟩ := h
      rcases (T.tr i hi).stay e c r0 with ⟨e1, c1, r1, _, _, a⟩ | ⟨a, _⟩
      · refine ⟨e, c, r0, fun h3 => ?_⟩
        rw [(r.inj r1).2] at h3
        rw [a h3]; decide
      · exact absurd r (a e' c')
    · exact absurd r ((T.tr i hi).absent (fun e c r => h ⟨e, c, r⟩) e' c')
  exact ⟨by rw [T.n]; exact Nat.le_refl _, fun i _ => by rw [T.N]; exact SameId.refl _, fun i _ => by rw [T.N]; exact ⟨rfl, rfl⟩, fun i _ => T.g i, fun i _ => .inl (by rw [T.N]), fun i h1 h2 => by rw [T.n] at h2; omega, hr⟩
/-- a row ticks, and what it puts out is told -/
theorem WTick.rowT (I : Inv w) (T : WTick w w1 w2 w3 w') {i : Nat} {e0 : En} {c0 : Conn} (hi : i < w.n) (r : w.row i e0 c0) :
    (c0.tick.1.x.st ≠ 0 → w'.row i e0 c0.tick.1) ∧ (c0.tick.1.x.st = 0 → ∀ e c, ¬ w'.row i e c) ∧ ∀ Dn, w'.D = w.D ++ Dn → (∀ h, h < 3 → (w'.H h).lost = (w.H h).lost) → ∀ s, s ∈ c0.tick.2 → ∃ r, r ∈ Dn ∧ r.src = (w.N i).host + 1 ∧ r.dst = e0.rHost ∧ r.g = stamp e0 s := by
  obtain ⟨D1, a1, _, _, _, _⟩ := T.t0.D
  obtain ⟨D2, b1, _, _, _, _⟩ := T.t1.D
  obtain ⟨D3, c1, _, _, _, _⟩ := T.t2.D
  have eD : w'.D = w.D ++ (D1 ++ (D2 ++ D3)) := by rw [T.e]; show w3.D = _; rw [c1, b1, a1]; simp
  have n1 : w1.n = w.n := T.t0.go.n
  have n2 : w2.n = w.n := T.t1.go.n.trans n1
  have N1 : w1.N = w.N := T.t0.go.N
  have N2 : w2.N = w.N := T.t1.go.N.trans N1
  have eH : w'.H = w3.H := by rw [T.e]
  have rows0 : ∀ e c, W.row { w with now := w.now + 1 } i e c ↔ w.row i e c := fun e c => host_row w { w with now := w.now + 1 } rfl (fun _ => rfl) (fun _ => rfl) i e c
  have rows4 : ∀ e c, w'.row i e c ↔ w3.row i e c := fun e c => by
    rw [T.e]; exact host_row w3 { w3 with tk := fun _ => w.now + 1 } rfl (fun _ => rfl) (fun _ => rfl) i e c
  have h0 := T.t0.go.H; have h1 := T.t1.go.H; have h2 := T.t2.go.H
  have hall : (w.N i).host = ((0 : Nat) : Int) ∨ (w.N i).host = ((1 : Nat) : Int) ∨ (w.N i).host = ((2 : Nat) : Int) := by have := I.hostR i hi; omega
  rcases hall with hh | hh | hh
  · obtain ⟨q1, q0, q2⟩ := T.t0.rowT i e0 c0 hi hh ((rows0 e0 c0).2 r)
    refine ⟨fun k => ?_, fun k e c r' => q0 k e c ((T.t1.same i (by rw [n1]; exact hi) (by rw [N1, hh]; decide) _ _).1 ((T.t2.same i (by rw [n2]; exact hi) (by rw [N2, hh]; decide) _ _).1 ((rows4 _ _).1 r'))), fun Dn hD hl s hs => ?_⟩
    · exact (rows4 _ _).2 ((T.t2.same i (by rw [n2]; exact hi) (by rw [N2, hh]; decide) _ _).2 ((T.t1.same i (by rw [n1]; exact hi) (by rw [N1, hh]; decide) _ _).2 (q1 k)))
    · rw [eD] at hD
      rw [← List.append_cancel_left hD]
      have e1 : w3.H 0 = w1.H 0 := (h2 0 (by omega)).trans (h1 0 (by omega))
      obtain ⟨r', r1, r2, r3, r4⟩ := q2 D1 a1 (by have := hl 0 (by omega); rw [eH, e1] at this; exact this) s hs
      exact ⟨r', List.mem_append_left _ r1, by rw [r2, hh], r3, r4⟩
  · obtain ⟨q1, q0, q2⟩ := T.t1.rowT i e0 c0 (by rw [n1]; exact hi) (by rw [N1]; exact hh) ((T.t0.same i hi (by rw [show (W.N { w with now := w.now + 1 } i).host = (w.N i).host from rfl, hh]; decide) _ _).2 ((rows0 e0 c0).2 r))
    refine ⟨fun k => ?_, fun k e c r' => q0 k e c ((T.t2.same i (by rw [n2]; exact hi) (by rw [N2, hh]; decide) _ _).1 ((rows4 _ _).1 r')), fun Dn hD hl s hs => ?_⟩
    · exact (rows4 _ _).2 ((T.t2.same i (by rw [n2]; exact hi) (by rw [N2, hh]; decide) _ _).2 (q1 k))
    · rw [eD] at hD
      rw [← List.append_cancel_left hD]
      have e1 : w3.H 1 = w2.H 1 := h2 1 (by omega)
      have e2 : w1.H 1 = w.H 1 := h0 1 (by omega)
      obtain ⟨r', r1, r2, r3, r4⟩ := q2 D2 b1 (by have := hl 1 (by omega); rw [eH, e1] at this; rw [e2]; exact this) s hs
      exact ⟨r', List.mem_append_right _ (List.mem_append_left _ r1), by rw [r2, hh], r3, r4⟩
  · obtain ⟨q1, q0, q2⟩ := T.t2.rowT i e0 c0 (by rw [n2]; exact hi) (by rw [N2]; exact hh) ((T.t1.same i (by rw [n1]; exact hi) (by rw [N1, hh]; decide) _ _).2 ((T.t0.same i hi (by rw [show (W.N { w with now := w.now + 1 } i).host = (w.N i).host from rfl, hh]; decide) _ _).2 ((rows0 e0 c0).2 r)))
    refine ⟨fun k => (rows4 _ _).2 (q1 k), fun k e c r' => q0 k e c ((rows4 _ _).1 r'), fun Dn hD hl s hs => ?_⟩
    rw [eD] at hD
    rw [← List.append_cancel_left hD]
    have e1 : w2.H 2 = w.H 2 := (h1 2 (by omega)).trans (h0 2 (by omega))
    obtain ⟨r', r1, r2, r3, r4⟩ := q2 D3 c1 (by have := hl 2 (by omega); rw [eH] at this; rw [e1]; exact this) s hs
    exact ⟨r', List.mem_append_right _ (List.mem_append_right _ r1), by rw [r2, hh], r3, r4⟩
theorem WTick.onlyT (I : Inv w) (T : WTick w w1 w2 w3 w') : ∀ Dn, w'.D = w.D ++ Dn → ∀ r, r ∈ Dn → ∃ i e0 c0, i < w.n ∧ w.row i e0 c0 ∧ ∃ s, s ∈ c0.tick.2 ∧ r.g = stamp e0 s := fun Dn hDn r hr => by
  obtain ⟨D1, a1, _, _, _, _⟩ := T.t0.D
  obtain ⟨D2, b1, _, _, _, _⟩ := T.t1.D
  obtain ⟨D3, c1, _, _, _, _⟩ := T.t2.D
  have eD : w'.D = w.D ++ (D1 ++ (D2 ++ D3)) := by rw [T.e]; show w3.D = _; rw [c1, b1, a1]; simp
  rw [eD] at hDn
  rw [← List.append_cancel_left hDn] at hr
  have n1 : w1.n = w.n := T.t0.go.n
  have n2 : w2.n = w.n := T.t1.go.n.trans n1
  have N1 : w1.N = w.N := T.t0.go.N
  have N2 : w2.N = w.N := T.t1.go.N.trans N1
  have rows0 : ∀ i e c, W.row { w with now := w.now + 1 } i e c ↔ w.row i e c := fun i e c => host_row w { w with now := w.now + 1 } rfl (fun _ => rfl) (fun _ => rfl) i e c
  rcases List.mem_append.1 hr with q | q
  · obtain ⟨i, e, c, hi, ha, rr, s, s1, s2⟩ := T.t0.onlyT D1 a1 r q
    exact ⟨i, e, c, hi, (rows0 i e c).1 rr, s, s1, s2⟩
  rcases List.mem_append.1 q with q | q
  · obtain ⟨i, e, c, hi, ha, rr, s, s1, s2⟩ := T.t1.onlyT D2 b1 r q
    rw [n1] at hi
    rw [N1] at ha
    exact ⟨i, e, c, hi, (rows0 i e c).1 ((T.t0.same i hi (by show (w.N i).host ≠ _; rw [ha]; decide) e c).1 rr), s, s1, s2⟩
  · obtain ⟨i, e, c, hi, ha, rr, s, s1, s2⟩ := T.t2.onlyT D3 c1 r q
    rw [n2] at hi
    rw [N2] at ha
    exact ⟨i, e, c, hi, (rows0 i e c).1 ((T.t0.same i hi (by show (w.N i).host ≠ _; rw [ha]; decide) e c).1 ((T.t1.same i (by rw [n1]; exact hi) (by rw [N1, ha]; decide) e c).1 rr)), s, s1, s2⟩
theorem WTick.now (T : WTick w w1 w2 w3 w') : w'.now = w.now + 1 := by
  have e1 := T.t0.go.now; have e2 := T.t1.go.now; have e3 := T.t2.go.now
  rw [T.e]; show w3.now = _
  rw [e3, e2, e1]
end
/-! ### clients that never opened -/
/-- no client was born behind the tick t -/
def Bb (w : W) (t : Int) : Prop := ∀ j, j < w.n → (w.N j).client = true → (w.G j).b ≤ t
/-- a client that never opened goes soon -/
def Bq (w : W) (t : Int) : Prop := ∀ j e c, j < w.n → w.row j e c → (w.N j).client = true → (w.N j).peer = -1 → c.x.st = 4 → w.now + c.x.quiet ≤ t + 40
section
variable {w w' : W} {t : Int}
theorem Bb.start (I : Inv w) : Bb w w.now := fun j hj _ => by have := I.tkn j hj; omega
theorem Bq.start (I : Inv w) : Bq w w.now := fun j e c hj r _ _ _ => by have := (I.row_c hj r).x.quiet; omega
theorem Bb.ev (E : Ev w w') (h : Bb w t) : Bb w' t := fun j hj hc => by
  by_cases hjn : j < w.n
  · rw [(E.g j hjn).1.b]
    exact h j hjn (by rw [← (E.id j hjn).cl]; exact hc)
  · rw [(E.nw j (by omega) hj).1] at hc; cases hc
theorem Ev.peer1 (E : Ev w w') {j : Nat} (hj : j < w.n) (h : (w'.N j).peer = -1) : (w.N j).peer = -1 := by
  rcases E.pe j hj with k | ⟨k, _⟩
  · rw [← k]; exact h
  · exact k
/-- by a frame -/
theorem Bq.inp (I : Inv w) (sy : Syn w) (I' : Inv w') (E : Ev w w') (now : w'.now = w.now) (bb : Bb w t) (h : Bq w t) {hh : Nat} (hd : (∀ i, i < w.n → ∀ e c, w'.row i e c → w.row i e c) ∨ ∃ r, Disp w w' hh r) : Bq w' t := fun j e' c' hj r' hc hp h4 => by
  have hjn : j < w.n := by
    by_cases hjn : j < w.n
    · exact hjn
    · have := (E.nw j (by omega) hj).1
      rw [hc] at this; cases this
  have hc0 : (w.N j).client = true := by rw [← (E.id j hjn).cl]; exact hc
  have hp0 := E.peer1 hjn hp
  obtain ⟨e, c, r, _⟩ := E.op j e' c' hjn r'
  have okq := (I'.row_c hj r').x.quiet
  by_cases c4 : c.x.st = 4
  · have same : c' = c := by
      rcases hd with hd | ⟨rc, hd⟩
      · exact ((hd j hjn e' c' r').inj r).2
      · by_cases hit : (w.N j).host = (hh : Int) ∧ e.tup rc.g.dp rc.src rc.g.sp
        · obtain ⟨⟨e1, r1⟩, _⟩ := hd.hit j e c hjn hit.1 r hit.2
          rw [(r'.inj r1).2]
          unfold Conn.input; rw [if_pos c4]
        · exact (r'.inj (hd.miss j e c hjn r hit)).2
    rw [same, now]
    exact h j e c hjn r hc0 hp0 c4
  · cases I.sta j hjn e c r with
    | syn cl pe o t' =>
      have := o.rem_pos
      have := sy.tk j hjn
      have := bb j hjn hc0
      rw [now]; omega
    | srv p cl => rw [hc0] at cl; cases cl
    | well p m => have := m.ip; omega
    | bad st => exact absurd st c4
/-- by a tick -/
theorem Bq.tick {w1 w2 w3 : W} (I : Inv w) (sy : Syn w) (T : WTick w w1 w2 w3 w') (bb : Bb w t) (h : Bq w t) : Bq w' t := fun j e' c' hj r' hc hp h4 => by
  have E := T.ev
  rw [T.n] at hj
  have hc0 : (w.N j).client = true := by rw [← (E.id j hj).cl]; exact hc
  have hp0 := E.peer1 hj hp
  obtain ⟨e, c, r, _⟩ := E.op j e' c' hj r'
  obtain ⟨q1, q0, _⟩ := T.rowT I hj r
  have okq := (T.inv.row_c (by rw [T.n]; exact hj) r').x.quiet
  rw [T.now]
  by_cases c4 : c.x.st = 4
  · have hq := h j e c hj r hc0 hp0 c4
    have av : c.r.avail = 0 := by
      cases I.sta j hj e c r with
      | syn cl pe o => have := o.st; omega
      | srv p cl pe o => have := o.st; omega
      | well p m => have := m.ip; omega
      | bad st why av => exact av
    rcases Conn.tick_quiet c4 with ⟨a1, a2, a3⟩ | ⟨a1, a3⟩
    · -- the row is gone
      exact absurd r' (q0 (by rw [a3]; rfl) e' c')
    · have st : c.tick.1.x.st = 4 := by rw [a3]; exact c4
      have e1 := q1 (by rw [st]; decide)
      rw [(r'.inj e1).2, a3]
      show w.now + 1 + c.aged.x.quiet ≤ t + 40
      have hq0 : 0 < c.x.quiet := by
        by_cases k : 0 < c.x.quiet
        · exact k
        · have h0 := (I.row_c hj r).x.quiet
          exact absurd ⟨by show (if 0 < c.x.quiet then c.x.quiet - 1 else c.x.quiet) = 0; rw [if_neg k]; omega, av⟩ a1
      have : c.aged.x.quiet = c.x.quiet - 1 := by
        show (if 0 < c.x.quiet then c.x.quiet - 1 else c.x.quiet) = _
        rw [if_pos hq0]
      omega
  · cases I.sta j hj e c r with
    | syn cl pe o t' =>
      have := o.rem_pos
      have := sy.tk j hj
      have := bb j hj hc0
      omega
    | srv p cl => rw [hc0] at cl; cases cl
    | well p m => have := m.ip; omega
    | bad st => exact absurd st c4
/-- NOBODY ELSE has the peer's place -/
theorem Inv.norow (I : Inv w) (sy : Syn w) (bb : Bb w t) (bq : Bq w t) (ht : t + 41 ≤ w.now) {s v : Nat} (m : w.mut s v) {e : En} {c : Conn} (rs : w.row s e c) (hv : ∀ e c, ¬ w.row v e c) : ∀ j e c, j < w.n → w.row j e c → mir (w.N s) (w.N j) → False := fun j ej cj hj rj hm => by
  cases hcl : (w.N s).client with
  | true =>
    have := I.meet_c m hcl rs hj rj hm
    subst this
    exact hv ej cj rj
  | false =>
    have ht1 : twin (w.N v) (w.N j) := (I.mir_of_mut m).twin hm
    have hps := (I.ports s m.hi).2.2.2 hcl
    have hcj : (w.N j).client = true := by
      cases hc : (w.N j).client with
      | true => rfl
      | false =>
        have := ((I.ports j hj).2.2.2 hc).1
        have := hm.2.2.2
        omega
    rcases Nat.lt_trichotomy j v with k | k | k
    · exact (I.ord j v k m.hp ht1.symm).1 ej cj rj
    · subst k; exact hv ej cj rj
    · have nomut : ∀ p', w.mut j p' → False := fun p' mj => by
        have tw : twin (w.N p') (w.N s) := (I.mir_of_mut mj).twin hm.symm
        rcases Nat.lt_trichotomy p' s with q | q | q
        · have := I.p5 j p' mj hcj s m.hi q tw
          have := m.ip; omega
        · subst q
          have := mj.pi; have := m.ip; omega
        · exact (I.ord s p' q mj.hp tw.symm).1 e c rs
      cases I.sta j hj ej cj rj with
      | syn cl pe o t' =>
        have := o.rem_pos
        have := sy.tk j hj
        have := bb j hj hcj
        omega
      | srv p cl => rw [hcj] at cl; cases cl
      | well p mm => exact nomut p mm
      | bad st why av pf b =>
        rcases (I.cli j hj hcj).2 with q | ⟨p, p1, p2, _, p4⟩
        · have := bq j ej cj hj rj hcj q st
          have := (I.row_c hj rj).x.quiet
          omega
        · exact nomut p ⟨hj, p1, p2, p4⟩
end
end Go.Proofs.Qxb6500351aGreat
