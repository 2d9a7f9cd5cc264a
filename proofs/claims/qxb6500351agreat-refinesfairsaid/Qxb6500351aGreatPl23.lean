/- THE PLAIN LAW of the whole network, part 6: a segment meets a row. No Go in sight. -/
import Derived.Test.Qxb6500351aGreatPl22
import Derived.Test.Qxb6500351aGreatPl30
set_option linter.unusedVariables false
set_option linter.unusedSimpArgs false
namespace Go.Proofs.Qxb6500351aGreat
open Go.Eng
/-! ### what a segment can do, by cases -/
theorem synSent_cases (c : Conn) (s : Seg) : c.inSynSent s = (c, []) ∨ c.inSynSent s = (c, [rstS s.ack]) ∨ c.inSynSent s = (c.fail 18, []) ∨
    (¬ s.flags % 2 = 0 ∧ ¬ s.flags / 2 % 2 * 2 = 0 ∧ s.flags / 8 * 8 = 0 ∧ s.ack = seqAdd c.x.iss 1 ∧ c.inSynSent s = (⟨{ c.opened.x with peerWnd := window s.wnd }, c.opened.s, c.r.reset (seqAdd s.seq 1)⟩, [(⟨{ c.opened.x with peerWnd := window s.wnd }, c.opened.s, c.r.reset (seqAdd s.seq 1)⟩ : Conn).ack])) := by
  unfold Conn.inSynSent
  by_cases h1 : ¬ s.flags / 2 % 2 * 2 = 0 ∧ ¬ s.ack = seqAdd c.x.iss 1
  · rw [if_pos h1]
    by_cases h2 : ¬ s.flags / 8 * 8 = 0
    · rw [if_pos h2]; exact .inl rfl
    · rw [if_neg h2]; exact .inr (.inl rfl)
  · rw [if_neg h1]
    by_cases h2 : ¬ s.flags / 8 * 8 = 0
    · rw [if_pos h2]
      by_cases h3 : ¬ s.flags / 2 % 2 * 2 = 0
      · rw [if_pos h3]; exact .inr (.inr (.inl rfl))
      · rw [if_neg h3]; exact .inl rfl
    · rw [if_neg h2]
      by_cases h3 : s.flags % 2 = 0 ∨ s.flags / 2 % 2 * 2 = 0
      · rw [if_pos h3]; exact .inl rfl
      · rw [if_neg h3]
        refine .inr (.inr (.inr ⟨fun h => h3 (.inl h), fun h => h3 (.inr h), Decidable.not_not.1 h2, ?_, rfl⟩))
        by_cases h4 : s.ack = seqAdd c.x.iss 1
        · exact h4
        · exact absurd ⟨fun h => h3 (.inr h), h4⟩ h1
theorem sync_cases (c : Conn) (s : Seg) : c.inSync s = (c.fail 17, []) ∨ c.inSync s = (c, []) ∨ (c.x.st = 2 ∧ c.inSync s = (c, [c.again])) ∨ (c.x.st ≠ 2 ∧ c.inSync s = (c, [c.ack])) ∨ (c.x.st = 2 ∧ c.inSync s = (c, [rstS s.ack])) ∨
    (s.flags / 8 * 8 = 0 ∧ s.flags % 2 = 0 ∧ ¬ s.flags / 2 % 2 * 2 = 0 ∧ ((c.x.st = 2 ∧ c.inSync s = c.opened.inAck s) ∨ (c.x.st ≠ 2 ∧ c.inSync s = c.inAck s))) := by
  by_cases h1 : s.flags / 8 * 8 = 0
  · by_cases h2 : s.flags % 2 = 0
    · by_cases h3 : s.flags / 2 % 2 * 2 = 0
      · exact .inr (.inl (inSync_noack h1 h2 h3))
      · by_cases h4 : c.x.st = 2
        · by_cases h5 : s.ack = seqAdd c.x.iss 1
          · exact .inr (.inr (.inr (.inr (.inr ⟨h1, h2, h3, .inl ⟨h4, inSync_opened h1 h2 h3 h4 h5⟩⟩))))
          · exact .inr (.inr (.inr (.inr (.inl ⟨h4, inSync_bad h1 h2 h3 h4 h5⟩))))
        · exact .inr (.inr (.inr (.inr (.inr ⟨h1, h2, h3, .inr ⟨h4, inSync_ack h1 h2 h3 h4⟩⟩))))
    · by_cases h4 : c.x.st = 2
      · exact .inr (.inr (.inl ⟨h4, inSync_syn2 h1 h2 h4⟩))
      · exact .inr (.inr (.inr (.inl ⟨h4, inSync_syn3 h1 h2 h4⟩)))
  · by_cases h2 : 0 ≤ seqDiff s.seq c.rcvNxt ∧ seqDiff s.seq c.rcvNxt ≤ 17
    · exact .inl (inSync_rst1 h1 h2.1 h2.2)
    · exact .inr (.inl (inSync_rst0 h1 h2))
structure Syn (w : W) : Prop where
  tk : ∀ i, i < w.n → w.tk i = w.now
  clk : ∀ h, h < 3 → (w.H h).clock = w.now
/-- what a step of one connection leaves to the net -/
structure Done (w : W) (i : Nat) (e0 : En) (c0 c1 : Conn) (t' : Tb) (q' : Int → List Int) (L : List (Seg × Kd)) (g1 : Gh) (x1 : Ned) : Prop where
  inv : Inv (w.put i e0 c1 t' q' L g1 x1)
  id : SameId (w.N i) x1
  wo : x1.wasOpen = ((w.N i).wasOpen || decide (c1.x.st = 3))
  pe : x1.peer = (w.N i).peer ∨ (c0.x.st = 1 ∧ c1.x.st = 3 ∧ ∃ p : Nat, x1.peer = (p : Int) ∧ p < w.n ∧ w.pres p 6)
  may : mayStep c0.x.st c1.x.st = true
  why : c0.x.st = 4 → c1.x.why = c0.x.why ∨ (c0.x.why = 0 ∧ c1.x.why = 20)
  gle : (w.G i).Le g1
  grd : g1.rd = (w.G i).rd
section
variable {w : W} {i p : Nat} {e0 e1 : En} {c0 c1 : Conn}
theorem PairOk.RX {g p : Gh} (h : PairOk g p) : p.R ≤ g.X := by
  have h1 := h.rx
  unfold Gh.R Gh.X
  cases hp : p.pf with
  | false => have := b2_b g.f; rw [b2_f]; omega
  | true =>
    obtain ⟨k1, k2⟩ := h.pf hp
    rw [k1, b2_t]; omega
theorem PairOk.UR {g p : Gh} (h : PairOk g p) : g.U ≤ p.R := by
  have h1 := h.ur
  unfold Gh.R Gh.U
  have := b2_mono h.fa
  omega
/-- whose segment meets an open end's row: its peer's -/
theorem Inv.meet (I : Inv w) (hi : i < w.n) (r : w.row i e0 c0) {a b : Nat} (m : w.mut a b) (hm : mir (w.N a) (w.N i)) (h : (∃ e c, w.row a e c) ∨ ∃ e c, w.row b e c) (hk : (w.N a).client = true ∨ ∃ p, w.mut i p) : w.mut i a := by
  rcases h with ⟨e, c, ra⟩ | ⟨e, c, rb⟩
  · cases hc : (w.N a).client with
    | true =>
      have := I.meet_c m hc ra hi r hm
      subst this; exact m.symm
    | false =>
      rw [hc] at hk
      obtain ⟨p, mp⟩ := hk.resolve_left (by decide)
      have hci : (w.N i).client = true := by
        cases hci : (w.N i).client with
        | true => rfl
        | false =>
          have h1 := ((I.ports a m.hi).2.2.2 hc).2.1
          have h2 := ((I.ports i hi).2.2.2 hci).1
          have := hm.2.2.2; omega
      have := I.meet_c mp hci r m.hi ra hm.symm
      subst this; exact mp
  · have ht : twin (w.N b) (w.N i) := (I.mir_of_mut m).twin hm
    have := I.last m.hp hi rb r ht
    subst this; exact m.symm
theorem Inv.mir_rec (I : Inv w) (hi : i < w.n) (r : w.row i e0 c0) {rc : Rc} {a : Nat} (s : w.seg rc a) (hd : rc.dst = (w.N i).host + 1) (ht : e0.tup rc.g.dp rc.src rc.g.sp) : mir (w.N a) (w.N i) := by
  have t := I.tup i hi e0 c0 r
  refine ⟨by rw [← s.dst, hd], ?_, ?_, ?_⟩
  · rw [← s.src, ← ht.2.1, t.2.1]
  · rw [← s.sp, ← ht.2.2, t.2.2]
  · rw [← s.dp, ← ht.1, t.1]
theorem pres_row {w : W} {a : Nat} {q : Int} (h : w.pres a q) : ∃ e c, w.row a e c := by
  obtain ⟨e, c, r, _⟩ := h
  exact ⟨e, c, r⟩
/-- the acknowledged number stays within what the peer has -/
theorem U_le {g g1 p : Gh} {S T : List Int} {c : Conn} {P : List Int} (pr : PairOk g p) (rel : Rel c g1 S p P) (hg : g.f = true → g.x = g1.x) (hx : g.x ≤ g1.x) (h : g1.U ≤ p.R) : g1.u ≤ p.r ∧ (g1.fa = true → p.pf = true) := by
  have hU : g1.u ≤ g1.U := rel.UX.2.2
  have hux := rel.ux
  cases hp : p.pf with
  | false =>
    have hR : p.R = p.r := by unfold Gh.R; rw [hp, b2_f]; omega
    refine ⟨by omega, fun k => ?_⟩
    exfalso
    obtain ⟨k1, k2⟩ := rel.fa1 k
    have : g1.U = g1.u + 1 := by unfold Gh.U; rw [k, b2_t]
    have := pr.rx
    omega
  | true =>
    obtain ⟨k1, k2⟩ := pr.pf hp
    exact ⟨by have := hg k1; omega, fun _ => rfl⟩
/-- A SEGMENT MEETS A ROW -/
theorem Inv.to_row (I : Inv w) (sy : Syn w) {rc : Rc} (hr : rc ∈ w.D) (hage : w.now - rc.t ≤ 4) (hi : i < w.n) (r : w.row i e0 c0) (hd : rc.dst = (w.N i).host + 1) (ht : e0.tup rc.g.dp rc.src rc.g.sp) (gok : rc.g.Ok) :
    ∃ t' q' L g1 x1, L.map Prod.fst = (c0.input rc.g).2 ∧ Done w i e0 c0 (c0.input rc.g).1 t' q' L g1 x1 ∧ x1.sent = (w.N i).sent ∧ x1.closed = (w.N i).closed ∧ (c0.input rc.g).2.length ≤ 3 ∧
      ((t' = (w.host i).t ∧ q' = w.q (w.N i).host.toNat ∧ ¬ (e0.parent ≠ 0 ∧ e0.ready = false ∧ (c0.input rc.g).1.x.st = 3)) ∨ ((e0.parent ≠ 0 ∧ e0.ready = false ∧ (c0.input rc.g).1.x.st = 3) ∧ t' = ((w.host i).t.ready (w.N i).sd).2 ∧ q' = updQ (w.q (w.N i).host.toNat) e0.parent (w.q (w.N i).host.toNat e0.parent ++ [(w.N i).sd]))) := by
  have hh3 : (w.N i).host.toNat < 3 := by have := I.hostR i hi; omega
  have clk : (w.host i).clock = w.now := sy.clk _ hh3
  have tki := sy.tk i hi
  have T := Tab.same I hi r
  have ok0 := I.row_c hi r
  have gi := I.gh i hi
  have rk := I.recs rc hr hage
  have rt0 : rc.t ≤ w.now := by
    have h1 := (I.hist.ok rc.dgr (List.mem_map_of_mem hr)).2
    have h2 := (I.hT (rc.src - 1).toNat).1
    have e : rc.dgr.t = rc.t := rfl
    have e2 : w.T rc.dgr.src = (w.H (rc.src - 1).toNat).clock := rfl
    rw [e, e2] at h1; omega
  have hid := SameId.refl (w.N i)
  -- an end that stays as it is
  have orf : ∀ b : Bool, (b || decide ((4 : Int) = 3)) = b := fun b => by cases b <;> rfl
  have fail : ∀ why, 17 ≤ why → c0.x.st ≠ 4 → mayStep c0.x.st 4 = true → Done w i e0 c0 (c0.fail why) (w.host i).t (w.q (w.N i).host.toNat) [] (w.G i) (w.N i) := fun why hw h4 hm => by
    obtain ⟨f1, f2, f3, f4, f5, f6⟩ := Conn.fail_is ok0 why hw
    exact ⟨I.fail hi r clk f1 f2 f3 f4 f5 (.inl f6) hid rfl rfl (fun h => h) rfl (fun g k h => absurd h (by simp)), hid, (by rw [f2]; exact (orf _).symm), .inl rfl, hm, (fun h => absurd h h4), Gh.Le.refl _, rfl⟩
  -- est: what it tells of two ends
  have est : ∀ (a b : Nat) (k n : Int), w.seg rc a → w.mut a b → (w.pres a (10 - (w.tk a - rc.t)) ∨ (rc.g.data = [] ∧ rc.g.flags = 2 ∧ w.pres b (6 - (w.tk b - rc.t)))) → ((w.N a).client = true ∨ ∃ p, w.mut i p) → w.mut i a := fun a b k n s m pr hk =>
    I.meet hi r m (I.mir_rec hi r s hd ht) (by
      rcases pr with pr | ⟨_, _, pr⟩
      · exact .inl (pres_row pr)
      · exact .inr (pres_row pr)) hk
  cases I.sta i hi e0 c0 r with
  | syn cl pe o t pa nc wo z zs =>
    have st := o.st
    have e : c0.input rc.g = c0.inSynSent rc.g := by
      unfold Conn.input; rw [if_neg (by omega), if_pos st]
    rw [e]
    have keep : ∀ L : List (Seg × Kd), (∀ g k, (g, k) ∈ L → g.Ok ∧ (k = .rst ∧ g.flags / 8 = 1)) → Done w i e0 c0 c0 (w.host i).t (w.q (w.N i).host.toNat) L (w.G i) (w.N i) := fun L hL =>
      ⟨I.syn hi r clk cl pe st o (by omega) (by omega) (fun g k h => ⟨(hL g k h).1, .inl (hL g k h).2⟩), hid, (by rw [st, wo]; rfl), .inl rfl, (by rw [st]; rfl), (fun h => by omega), Gh.Le.refl _, rfl⟩
    have nt : ∀ P : Prop, ¬ (e0.parent ≠ 0 ∧ P) := fun P h => h.1 pa
    rcases synSent_cases c0 rc.g with h | h | h | ⟨f1, f2, f3, f4, h⟩
    · rw [h]
      exact ⟨_, _, [], _, _, rfl, keep [] (fun g k h => absurd h (by simp)), rfl, rfl, by simp, .inl ⟨rfl, rfl, nt _⟩⟩
    · rw [h]
      refine ⟨_, _, [(rstS rc.g.ack, .rst)], _, _, rfl, keep _ (fun g k h => ?_), rfl, rfl, by simp, .inl ⟨rfl, rfl, nt _⟩⟩
      have h : (g, k) = (rstS rc.g.ack, Kd.rst) := by simpa using h
      cases h; exact ⟨ok_rst _, rfl, rfl⟩
    · rw [h]
      exact ⟨_, _, [], _, _, rfl, fail 18 (by decide) (by omega) (by rw [st]; rfl), rfl, rfl, by simp, .inl ⟨rfl, rfl, nt _⟩⟩
    · -- it opens
      rw [h]
      cases rk with
      | syn a s k cl' fl => rw [fl] at f2; exact absurd rfl f2
      | rst k fl => have := gok.flags; omega
      | est a b k n s kk m v a0 ar kx w1 w2 pr =>
        rcases v.flags with fl | ⟨fl, _⟩ <;> rw [fl] at f1 <;> exact absurd rfl f1
      | sa j q s k cl' pe' fl sq ak da t' pr =>
        have hm := I.mir_rec hi r s hd ht
        obtain ⟨q', q1, q2, q3, q4, q5, q6⟩ := I.kid j s.hi cl'
        have hqq : q' = q := by omega
        subst hqq
        have htw : twin (w.N q') (w.N i) := q4.twin hm
        have hqi : q' = i := by
          rcases Nat.lt_trichotomy q' i with h | h | h
          · exfalso
            have hb := (I.ord q' i h hi htw).2
            have c1 := (I.cli q' (by have := s.hi; omega) q3).1
            have c2 := (I.cli i hi cl).1
            have hbi := (I.tkn i hi).2.2
            rw [o.iss, ak] at f4
            unfold seqAdd at f4
            omega
          · exact h
          · exact absurd r ((I.ord i q' h (by have := s.hi; omega) htw.symm).1 e0 c0)
        subst hqi
        obtain ⟨ej, cj, rj, hq⟩ := pr
        have tkj := sy.tk j s.hi
        have hpr6 : w.pres j 6 := ⟨ej, cj, rj, fun h4 => by have := hq h4; omega⟩
        have zj : w.G j = Gh.new (w.G j).iss (w.G j).b ∧ (w.N j).sent = [] := I.new j s.hi (fun p m => by
          have h1 := m.ip
          have : p = q' := by omega
          subst this
          have := m.pi; omega)
        have ro := Ong.opened (P := (w.N j).sent) (b := (w.G q').b) o (p := w.G j) (r := c0.r.reset (seqAdd rc.g.seq 1)) (Rb.ok_reset ok0.r _) (by rw [sq]; exact RcvR.reset _ _) (x := { c0.opened.x with peerWnd := window rc.g.wnd }) (by
          obtain ⟨a1, a2, a3, a4, a5, a6, a7⟩ := (Conn.ok_opened ok0).x
          exact ⟨a1, a2, window_b _, a4, a5, a6, a7⟩) rfl o.why o.f o.fa o.pf rfl
        rw [← z] at ro
        have eqs : c0.opened.s = c0.s.reset (seqAdd (w.G q').iss 1) := by
          have : c0.opened.s = c0.s.reset (seqAdd c0.x.iss 1) := rfl
          rw [this, o.iss]
        rw [eqs]
        have ro1 := ro.1
        rw [← zs] at ro1
        obtain ⟨kd, hk⟩ := I.open_c (x1 := { w.N q' with peer := (j : Int), wasOpen := true }) hi r clk tki cl pe st s.hi cl' q2 hpr6 tkj zj.1 ro1 ro.2 o.wc (Int.le_refl _) ⟨rfl, rfl, rfl, rfl, rfl, rfl⟩ rfl rfl rfl rfl
        refine ⟨_, _, [(_, kd)], _, _, rfl, ⟨hk, ⟨rfl, rfl, rfl, rfl, rfl, rfl⟩, ?_, .inr ⟨st, rfl, j, rfl, s.hi, hpr6⟩, by rw [st]; rfl, (fun h => by omega), Gh.Le.refl _, rfl⟩, rfl, rfl, by simp, .inl ⟨rfl, rfl, nt _⟩⟩
        show true = (_ || decide ((3 : Int) = 3))
        simp
  | srv q cl pe o t pa nx nc wo z zs =>
    have st := o.st
    have e : c0.input rc.g = c0.inSync rc.g := by
      unfold Conn.input; rw [if_neg (by omega), if_neg (by omega), if_pos (.inl st)]
    rw [e]
    have rdf : e0.ready = false := by rw [I.rd i hi e0 c0 r pa, wo]
    have keep : ∀ L : List (Seg × Kd), (∀ g k, (g, k) ∈ L → g.Ok ∧ ((k = .rst ∧ g.flags / 8 = 1) ∨ (k = .sa i ∧ g.flags = 3 ∧ g.seq = (w.G i).iss ∧ g.ack = c0.r.nxt ∧ g.data = []))) → Done w i e0 c0 c0 (w.host i).t (w.q (w.N i).host.toNat) L (w.G i) (w.N i) := fun L hL =>
      ⟨I.srv hi r clk st o rfl (by omega) (by omega) hL, hid, (by rw [st, wo]; rfl), .inl rfl, (by rw [st]; rfl), (fun h => by omega), Gh.Le.refl _, rfl⟩
    have nt : ∀ c : Conn, c.x.st ≠ 3 → ¬ (e0.parent ≠ 0 ∧ e0.ready = false ∧ c.x.st = 3) := fun c hc h => hc h.2.2
    rcases sync_cases c0 rc.g with h | h | ⟨_, h⟩ | ⟨hn, _⟩ | ⟨_, h⟩ | ⟨f1, f2, f3, ⟨_, h⟩ | ⟨hn, _⟩⟩
    · rw [h]
      exact ⟨_, _, [], _, _, rfl, fail 17 (by decide) (by omega) (by rw [st]; rfl), rfl, rfl, by simp, .inl ⟨rfl, rfl, nt (c0.fail 17) (by show (4 : Int) ≠ 3; decide)⟩⟩
    · rw [h]
      exact ⟨_, _, [], _, _, rfl, keep [] (fun g k h => absurd h (by simp)), rfl, rfl, by simp, .inl ⟨rfl, rfl, nt c0 (by omega)⟩⟩
    · rw [h]
      refine ⟨_, _, [(c0.again, .sa i)], _, _, rfl, keep _ (fun g k h => ?_), rfl, rfl, by simp, .inl ⟨rfl, rfl, nt c0 (by omega)⟩⟩
      have h : (g, k) = (c0.again, Kd.sa i) := by simpa using h
      cases h
      obtain ⟨a1, a2, a3, a4, a5⟩ := o.again2
      exact ⟨a1, .inr ⟨rfl, a2, a3, a4, a5⟩⟩
    · exact absurd st hn
    · rw [h]
      refine ⟨_, _, [(rstS rc.g.ack, .rst)], _, _, rfl, keep _ (fun g k h => ?_), rfl, rfl, by simp, .inl ⟨rfl, rfl, nt c0 (by omega)⟩⟩
      have h : (g, k) = (rstS rc.g.ack, Kd.rst) := by simpa using h
      cases h; exact ⟨ok_rst _, .inl ⟨rfl, rfl⟩⟩
    · -- it opens
      rw [h]
      cases rk with
      | syn a s k cl' fl => rw [fl] at f2; exact absurd f2 (by decide)
      | rst k fl => have := gok.flags; omega
      | sa j q s k cl' pe' fl => rw [fl] at f2; exact absurd f2 (by decide)
      | est a b k n s kk m v a0 ar kx w1 w2 pr =>
        have hm := I.mir_rec hi r s hd ht
        have hca : (w.N a).client = true := by
          cases hc : (w.N a).client with
          | true => rfl
          | false =>
            have h1 := ((I.ports a m.hi).2.2.2 hc).1
            have h2 := ((I.ports i hi).2.2.2 cl).2.1
            have := hm.2.2.1; omega
        have mi := est a b k n s m pr (.inl hca)
        have hbi : b = i := m.right mi.symm
        subst hbi
        have pra := I.pair a b m
        have prb := I.pair b a m.symm
        have ga := I.gh a m.hi
        have hnx : c0.r.nxt = ((w.G a).iss + 1) % 256 := by
          have := mi.ip
          have hqa : q = a := by omega
          rw [nx, hqa]
        have ro := Ong.opened (P := (w.N a).sent) (b := (w.G b).b) o (p := w.G a) (r := c0.r) ok0.r (RcvR.zero hnx o.av o.ah) (x := c0.opened.x) (Conn.ok_opened ok0).x rfl o.why o.f o.fa o.pf rfl
        rw [← z] at ro
        have eqs : (⟨c0.opened.x, c0.s.reset (seqAdd (w.G b).iss 1), c0.r⟩ : Conn) = c0.opened := by
          have : c0.opened = ⟨c0.opened.x, c0.s.reset (seqAdd c0.x.iss 1), c0.r⟩ := rfl
          rw [this, o.iss]
        rw [eqs] at ro
        have ro1 := ro.1
        rw [← zs] at ro1
        have hzz : (w.G b).X = 0 ∧ (w.G b).r = 0 ∧ (w.G b).U = 0 := by rw [z]; exact ⟨rfl, rfl, rfl⟩
        have hn := pra.RX
        have hRX := prb.RX
        have hXa : (w.G a).X ≤ (w.G a).u + 17 := by have := ga.xu; have := b2_b (w.G a).f; unfold Gh.X; omega
        have hua := pra.ur
        have hk0 := v.k0
        obtain ⟨g1, l1, l2, l3, l4, l5, l6, l7, l8, l9, l10⟩ := ro1.inAck ro.2 (s := rc.g) (k := k) (a := n) v ⟨by have := ga.u0; have := ga.ux; omega, ga.xn⟩ (fun h => (ga.f1 h).1) (by omega) (by omega) (by omega)
        have hwc : (c0.opened.inAck rc.g).1.x.weClosed = false := l9.trans o.wc
        have hst3 : (c0.opened.inAck rc.g).1.x.st = 3 := by
          rcases l5.st with k | k
          · exact k.1.st
          · have h1 := l4.fa1 k.2.1
            have := l4.wc h1.1
            rw [hwc] at this; cases this
        obtain ⟨u, u1, _, u2, u3, u4, u5, _⟩ := (I.hhost hi).good.ready r.at_ pa rdf
        have uk := (I.hhost hi).k.ready (w.N b).sd
        have uo : u.Ok := by
          have := (I.hhost hi).good.ok_ready (I.hhost hi).tok r.at_ pa rdf
          rw [u1] at this; exact this
        rw [u1] at uk
        have T2 : Tab w b e0 { e0 with ready := true } u (updQ (w.q (w.N b).host.toNat) e0.parent (w.q (w.N b).host.toNat e0.parent ++ [(w.N b).sd])) := ⟨u2, uk, uo, u5, ⟨rfl, rfl, rfl, rfl, rfl, rfl⟩, u3⟩
        have hle := U_le (S := (w.N b).sent) (T := []) prb l4 (fun hf => by rw [z] at hf; cases hf) l1.x (by
          rcases l2 with k | k
          · rw [k, hzz.2.2]; have := ga.r0; have := b2_b (w.G a).pf; unfold Gh.R; omega
          · omega)
        obtain ⟨L, hL, hI⟩ := I.well (segs := (c0.opened.inAck rc.g).2) (x1 := { w.N b with wasOpen := true }) hi r clk mi T2 l4 l5 l1 ⟨[], by simp, fun _ => rfl⟩ (fun h => h) ⟨rfl, rfl, rfl, rfl, rfl, rfl⟩ rfl (by rw [hwc]; exact nc.symm) rfl (fun _ => rfl) hle l6 (fun _ => ⟨by omega, by
            have hcr : c0.opened.x.credit = c0.x.credit := rfl
            rw [hcr] at l3; omega⟩) (.inr ⟨by omega, by
            have hcr : c0.opened.x.credit = c0.x.credit := rfl
            have := l4.ok.x.credit
            rw [hcr] at l3; omega⟩) (fun h => by omega) (fun h => by omega) (fun h => by omega)
        refine ⟨u, _, L, g1, _, hL, ⟨hI, ⟨rfl, rfl, rfl, rfl, rfl, rfl⟩, ?_, .inl rfl, by rw [st, hst3]; rfl, (fun h => by omega), l1, l10⟩, rfl, rfl, l7, .inr ⟨⟨pa, rdf, hst3⟩, by rw [u1], rfl⟩⟩
        show true = (_ || decide (_ = 3))
        rw [hst3]; simp
    · exact absurd st hn
  | bad st why av pf b =>
    have e : c0.input rc.g = (c0, []) := by
      unfold Conn.input Conn.inQuiet; rw [if_pos st, if_neg (fun h => (by have := h.1; omega))]
    rw [e]
    dsimp only
    refine ⟨_, _, [], _, _, rfl, ⟨I.fail (x1 := w.N i) hi r clk ok0 st why av pf (.inr ⟨st, by omega⟩) hid rfl rfl (fun h => h) rfl (fun g k h => absurd h (by simp)), hid, by rw [st]; exact (orf _).symm, .inl rfl, by rw [st]; rfl, fun _ => .inl rfl, Gh.Le.refl _, rfl⟩, rfl, rfl, by simp, .inl ⟨rfl, rfl, fun h => by rw [st] at h; exact absurd h.2.2 (by decide)⟩⟩
  | well q m rel wl wc wo b =>
    have gq := I.gh q m.hp
    have prq := I.pair i q m
    have prq2 := I.pair q i m.symm
    have hrd : e0.parent ≠ 0 → e0.ready = true := fun h => by rw [I.rd i hi e0 c0 r h, wo]
    have hnt : ∀ c : Conn, ¬ (e0.parent ≠ 0 ∧ e0.ready = false ∧ c.x.st = 3) := fun c h => by rw [hrd h.1] at h; exact absurd h.2.1 (by decide)
    have hle0 : (w.G i).u ≤ (w.G q).r ∧ ((w.G i).fa = true → (w.G q).pf = true) := ⟨prq.ur, prq.fa⟩
    -- it stays, and maybe acknowledges
    have keep : ∀ segs : List Seg, Outs segs (w.G i) (w.N i).sent (w.G q).iss → segs.length ≤ 3 → (c0.x.st = 4 → ((∀ s, s ∈ segs → s.data = [] ∧ s.flags = 2) ∧ w.pres q 6 ∧ w.tk q = w.now) ∨ segs = []) → ∃ L : List (Seg × Kd), L.map Prod.fst = segs ∧ Done w i e0 c0 c0 (w.host i).t (w.q (w.N i).host.toNat) L (w.G i) (w.N i) := fun segs ho hl hq => by
      obtain ⟨L, hL, hI⟩ := I.well (segs := segs) (x1 := w.N i) hi r clk m T rel wl (Gh.Le.refl _) ⟨[], by simp, fun _ => rfl⟩ id hid rfl wc wo hrd hle0 ho (fun h => ⟨h, by omega⟩) (.inl (by omega)) (fun h => .inr ⟨h, by omega⟩) (fun h => by have := b h; omega) (fun h => .inr (hq h))
      refine ⟨L, hL, hI, hid, by rw [wo]; rfl, .inl rfl, ?_, fun _ => .inl rfl, Gh.Le.refl _, rfl⟩
      unfold mayStep; simp
    rcases wl.st with ⟨rn, nfa⟩ | ⟨st4, hfa, hpf⟩
    · have st := rn.st
      have e : c0.input rc.g = c0.inSync rc.g := by
        unfold Conn.input; rw [if_neg (by omega), if_neg (by omega), if_pos (.inr st)]
      rw [e]
      rcases sync_cases c0 rc.g with h | h | ⟨hn, _⟩ | ⟨_, h⟩ | ⟨hn, _⟩ | ⟨f1, f2, f3, ⟨hn, _⟩ | ⟨_, h⟩⟩
      · rw [h]
        exact ⟨_, _, [], _, _, rfl, fail 17 (by decide) (by omega) (by rw [st]; rfl), rfl, rfl, by simp, .inl ⟨rfl, rfl, hnt _⟩⟩
      · rw [h]
        obtain ⟨L, hL, hD⟩ := keep [] (Outs.nil _ _ _) (by simp) (fun h => by omega)
        exact ⟨_, _, L, _, _, hL, hD, rfl, rfl, by simp, .inl ⟨rfl, rfl, hnt _⟩⟩
      · omega
      · rw [h]
        have hux := rel.ux
        obtain ⟨L, hL, hD⟩ := keep [c0.ack] (Outs.one (rel.ackV (by omega) (by omega)) (by have := b2_b (w.G i).f; unfold Gh.X; omega) (Int.le_refl _)) (by simp) (fun h => by omega)
        exact ⟨_, _, L, _, _, hL, hD, rfl, rfl, by simp, .inl ⟨rfl, rfl, hnt _⟩⟩
      · omega
      · omega
      · rw [h]
        cases rk with
        | syn a s k cl' fl => rw [fl] at f2; exact absurd f2 (by decide)
        | rst k fl => have := gok.flags; omega
        | sa j q s k cl' pe' fl => rw [fl] at f2; exact absurd f2 (by decide)
        | est a b' k n s kk m' v a0 ar kx w1 w2 pr =>
          have mi := est a b' k n s m' pr (.inr ⟨q, m⟩)
          have hqa : q = a := m.right mi
          subst hqa
          have hbi : b' = i := m'.right mi.symm
          subst hbi
          have hRX := prq.RX
          have hXa : (w.G q).X ≤ (w.G q).u + 17 := by have := gq.xu; have := b2_b (w.G q).f; unfold Gh.X; omega
          have hua := prq2.ur
          have hrx := prq2.rx
          have hxX : (w.G q).x ≤ (w.G q).X := by have := b2_b (w.G q).f; unfold Gh.X; omega
          have tkq := sy.tk q m.hp
          have hw1 := w1.1
          have hw2 := w2.1
          have hUX := rel.UX
          rw [tkq] at hw1
          rw [tki] at hw2
          obtain ⟨g1, l1, l2, l3, l4, l5, l6, l7, l8, l9, l10⟩ := rel.inAck rn (s := rc.g) (k := k) (a := n) v ⟨by have := gq.u0; have := gq.ux; omega, gq.xn⟩ (fun h => (gq.f1 h).1) (by omega) (by omega) (by omega)
          have hUR := prq.UR
          have hle := U_le (S := (w.N b').sent) (T := []) prq l4 (fun hf => by
            have h1 := (gi.f1 hf).1
            have h2 := l4.f1 (l1.f hf)
            omega) l1.x (by
            rcases l2 with k | k <;> omega)
          have hgb : g1.b = (w.G b').b := l1.b
          have hbt := (I.tkn b' hi).2.2
          obtain ⟨L, hL, hI⟩ := I.well (segs := (c0.inAck rc.g).2) (x1 := w.N b') hi r clk m T l4 l5 l1 ⟨[], by simp, fun _ => rfl⟩ id hid rfl (l9.trans wc) wo hrd hle l6 (fun _ => ⟨by omega, by omega⟩) (.inr ⟨by omega, by have := l4.ok.x.credit; omega⟩) (fun h => .inl (l8 h)) (fun h => by rw [l8 h]; omega) (fun h => .inl (l8 h))
          refine ⟨_, _, L, g1, _, hL, ⟨hI, hid, by rw [wo]; rfl, .inl rfl, ?_, (fun h => by omega), l1, l10⟩, rfl, rfl, l7, .inl ⟨rfl, rfl, hnt _⟩⟩
          rcases l5.st with k | k
          · rw [st, k.1.st]; rfl
          · rw [st, k.1]; rfl
    · have e : c0.input rc.g = (c0, c0.inQuiet rc.g) := by
        unfold Conn.input; rw [if_pos st4]
      rw [e]
      unfold Conn.inQuiet
      by_cases hx : c0.x.why = 0 ∧ rc.g.flags / 8 * 8 = 0 ∧ (¬ rc.g.flags / 4 % 2 * 4 = 0 ∨ 0 < rc.g.data.length)
      · rw [if_pos hx]
        cases rk with
        | syn a s k cl' fl sq da => rw [fl, da] at hx; exact absurd hx.2.2 (by decide)
        | rst k fl => have := gok.flags; omega
        | sa j q s k cl' pe' fl sq ak da => rw [fl, da] at hx; exact absurd hx.2.2 (by decide)
        | est a b' k n s kk m' v a0 ar kx w1 w2 pr =>
          have mi := est a b' k n s m' pr (.inr ⟨q, m⟩)
          have hqa : q = a := m.right mi
          subst hqa
          have tkq := sy.tk q m.hp
          have hp6 : w.pres q 6 := by
            rcases pr with ⟨e, c, hr', hq⟩ | ⟨d1, d2, _⟩
            · exact ⟨e, c, hr', fun h => by have := hq h; omega⟩
            · exfalso; rw [d1, d2] at hx; exact absurd hx.2.2 (by decide)
          have hux := rel.ux
          obtain ⟨L, hL, hD⟩ := keep [c0.ack] (Outs.one (rel.ackV (by omega) (by omega)) (by have := b2_b (w.G i).f; unfold Gh.X; omega) (Int.le_refl _)) (by simp) (fun _ => .inl ⟨fun s hs => by
            have : s = c0.ack := by simpa using hs
            subst this; exact ⟨rfl, rfl⟩, hp6, tkq⟩)
          exact ⟨_, _, L, _, _, hL, hD, rfl, rfl, by simp, .inl ⟨rfl, rfl, hnt _⟩⟩
      · rw [if_neg hx]
        obtain ⟨L, hL, hD⟩ := keep [] (Outs.nil _ _ _) (by simp) (fun _ => .inr rfl)
        exact ⟨_, _, L, _, _, hL, hD, rfl, rfl, by simp, .inl ⟨rfl, rfl, hnt _⟩⟩
end
end Go.Proofs.Qxb6500351aGreat
