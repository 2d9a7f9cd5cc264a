/- THE WORK, part 5: a record that comes whole, and the two ends of a connection. No Go in sight. -/
import Derived.Test.Qxb6500351aGreatLv2
import Derived.Test.Qxb6500351aGreatLv4
import Derived.Test.Qxb6500351aGreatPl46
set_option linter.unusedVariables false
set_option linter.unusedSimpArgs false
namespace Go.Proofs.Qxb6500351aGreat
open Go.Eng
/-- what no step within a settle changes -/
structure Ev (w w' : W) : Prop where
  n : w.n ≤ w'.n
  id : ∀ i, i < w.n → SameId (w.N i) (w'.N i)
  se : ∀ i, i < w.n → (w'.N i).sent = (w.N i).sent ∧ (w'.N i).closed = (w.N i).closed
  g : ∀ i, i < w.n → (w.G i).Le (w'.G i) ∧ (w'.G i).rd = (w.G i).rd
  pe : ∀ i, i < w.n → (w'.N i).peer = (w.N i).peer ∨ ((w.N i).peer = -1 ∧ (w.N i).sent = [] ∧ (w.N i).closed = false)
  nw : ∀ i, w.n ≤ i → i < w'.n → (w'.N i).client = false ∧ ∀ e c, w'.row i e c → c.x.st ≠ 3
  op : ∀ i e' c', i < w.n → w'.row i e' c' → ∃ e c, w.row i e c ∧ (c'.x.st = 3 → c.x.st ≠ 4)
theorem mayStep_3 {a : Int} (h : mayStep a 3 = true) : a ≠ 4 := fun k => by subst k; exact absurd h (by decide)
theorem Eff.ev {w w' : W} {h : Nat} (I : Inv w) (e : Eff w w' h) : Ev w w' := by
  cases e with
  | no e => exact ⟨by rw [e.n]; exact Nat.le_refl _, fun i _ => by rw [e.N]; exact SameId.refl _, fun i _ => by rw [e.N]; exact ⟨rfl, rfl⟩, fun i _ => by rw [e.G]; exact ⟨Gh.Le.refl _, rfl⟩, fun i _ => .inl (by rw [e.N]), fun i h1 h2 => by rw [e.n] at h2; omega, fun i e' c' hi r => ⟨e', c', (e.rows i hi e' c').1 r, fun h => by omega⟩⟩
  | born e =>
    obtain ⟨e1, c1, b1, b2, _, _, _, _, _, ⟨p, _, b8, _⟩, _⟩ := e.row
    refine ⟨by rw [e.n]; exact Nat.le_succ _, fun i hi => by rw [e.N i hi]; exact SameId.refl _, fun i hi => by rw [e.N i hi]; exact ⟨rfl, rfl⟩, fun i hi => by rw [e.G i hi]; exact ⟨Gh.Le.refl _, rfl⟩, fun i hi => .inl (by rw [e.N i hi]), fun i h1 h2 => ?_, fun i e' c' hi r => ⟨e', c', (e.rows i hi e' c').1 r, fun h => by omega⟩⟩
    have : i = w.n := by have := e.n; omega
    subst this
    refine ⟨by rw [b8]; rfl, fun e2 c2 r2 => ?_⟩
    rw [(r2.inj b1).2]; omega
  | row i e hh rd se cl =>
    obtain ⟨e0, e1, c0, c1, r0, r1, _, _, pe, may, _⟩ := e.row
    have key : ∀ j, j ≠ i → w'.N j = w.N j ∧ w'.G j = w.G j := fun j hj => ⟨e.N j hj, e.G j hj⟩
    refine ⟨by rw [e.n]; exact Nat.le_refl _, fun j _ => ?_, fun j _ => ?_, fun j _ => ?_, fun j _ => ?_, fun j h1 h2 => by rw [e.n] at h2; omega, fun j e' c' hj r => ?_⟩
    · by_cases hj : j = i
      · subst hj; exact e.id
      · rw [(key j hj).1]; exact SameId.refl _
    · by_cases hj : j = i
      · subst hj; exact ⟨se, cl⟩
      · rw [(key j hj).1]; exact ⟨rfl, rfl⟩
    · by_cases hj : j = i
      · subst hj; exact ⟨e.gle, rd⟩
      · rw [(key j hj).2]; exact ⟨Gh.Le.refl _, rfl⟩
    · by_cases hj : j = i
      · subst hj
        rcases pe with k | ⟨a, _⟩
        · exact .inl k
        · right
          cases I.sta j e.hi e0 c0 r0 with
          | syn cl pe o t pa nc wo z zs => exact ⟨pe, zs, nc⟩
          | srv p cl pe o => have := o.st; omega
          | well p m rel wl =>
            rcases wl.st with k | k
            · have := k.1.st; omega
            · have := k.1; omega
          | bad st => omega
      · exact .inl (by rw [(key j hj).1])
    · by_cases hji : j = i
      · subst hji
        refine ⟨e0, c0, r0, fun h3 => ?_⟩
        rw [(r.inj r1).2] at h3
        rw [h3] at may
        exact mayStep_3 may
      · exact ⟨e', c', (e.rows j hj hji e' c').1 r, fun h => by omega⟩
/-- rows stay where a frame comes in -/
theorem Eff.keep {w w' : W} {h : Nat} (e : Eff w w' h) {i : Nat} (hi : i < w.n) {e0 : En} {c0 : Conn} (r : w.row i e0 c0) : ∃ e' c', w'.row i e' c' := by
  cases e with
  | no e => exact ⟨e0, c0, (e.rows i hi e0 c0).2 r⟩
  | born e => exact ⟨e0, c0, (e.rows i hi e0 c0).2 r⟩
  | row j e _ _ _ _ =>
    by_cases hij : i = j
    · subst hij
      obtain ⟨_, e1, _, c1, _, r1, _⟩ := e.row
      exact ⟨e1, c1, r1⟩
    · exact ⟨e0, c0, (e.rows i hi hij e0 c0).2 r⟩
section
variable {w w' : W}
theorem Ev.mut (E : Ev w w') {a b : Nat} (m : w.mut a b) : w'.mut a b := by
  have hn := E.n
  have h1 := m.hi; have h2 := m.hp; have h3 := m.ip; have h4 := m.pi
  refine ⟨by omega, by omega, ?_, ?_⟩
  · rcases E.pe a m.hi with k | ⟨k, _⟩
    · exact k.trans h3
    · omega
  · rcases E.pe b m.hp with k | ⟨k, _⟩
    · exact k.trans h4
    · omega
/-- an open end was open, or has nothing to send -/
theorem Ev.opn (E : Ev w w') (I : Inv w) (I' : Inv w') {s v : Nat} (m : w'.mut s v) {e' : En} {c' : Conn} (r : w'.row s e' c') (st : c'.x.st = 3) : (w.mut s v ∧ ∃ e c, w.row s e c ∧ c.x.st = 3) ∨ ((w'.N s).sent = [] ∧ (w'.N s).closed = false) := by
  by_cases hs : s < w.n
  · obtain ⟨e, c, r0, h4⟩ := E.op s e' c' hs r
    have h4 := h4 st
    cases I.sta s hs e c r0 with
    | syn cl pe o t pa nc wo z zs => right; rw [(E.se s hs).1, (E.se s hs).2]; exact ⟨zs, nc⟩
    | srv p cl pe o t pa nx nc wo z zs => right; rw [(E.se s hs).1, (E.se s hs).2]; exact ⟨zs, nc⟩
    | well p mm rel wl =>
      left
      have : v = p := m.right (E.mut mm)
      subst this
      rcases wl.st with k | k
      · exact ⟨mm, e, c, r0, k.1.st⟩
      · exact absurd k.1 h4
    | bad st4 => exact absurd st4 h4
  · exact absurd st ((E.nw s (by omega) m.hi).2 e' c' r)
/-- what is acknowledged of an end whose peer's FIN has come stays so -/
theorem Ev.pfR (E : Ev w w') (I : Inv w) (I' : Inv w') {s v : Nat} (m : w.mut s v) (hp : (w.G s).pf = true) : (w'.G s).pf = true ∧ (w'.G s).R = (w.G s).R := by
  have m' := E.mut m
  have p1 := (E.g s m.hi).1.pf hp
  obtain ⟨a1, a2⟩ := (I.pair v s m.symm).pf hp
  obtain ⟨b1, b2'⟩ := (I'.pair v s m'.symm).pf p1
  have x1 := ((I.gh v m.hp).f1 a1).1
  have x2 := ((I'.gh v m'.hp).f1 b1).1
  rw [(E.se v m.hp).1] at x2
  refine ⟨p1, ?_⟩
  unfold Gh.R
  rw [p1, hp, b2', a2, x1, x2]
theorem Inv.U_b (I : Inv w) {s v : Nat} (m : w.mut s v) {e : En} {c : Conn} (r : w.row s e c) (h4 : c.x.st ≠ 4) : ((w.N s).sent.length : Int) ≤ (w.G s).u + 16 := by
  cases I.sta s m.hi e c r with
  | syn cl pe o => have := m.ip; omega
  | srv p cl pe o t pa nx nc wo z zs => rw [zs, z]; show ((0 : Nat) : Int) ≤ 0 + 16; omega
  | well p m' rel wl =>
    have := rel.s.cnt; have := rel.ok.s.count; omega
  | bad st => exact absurd st h4
/-- one acknowledged number, read off a row -/
theorem Inv.U_eq (I : Inv w) (I' : Inv w') (E : Ev w w') {s v : Nat} (m : w.mut s v) {e : En} {c : Conn} (r : w.row s e c) (st : c.x.st = 3) {e' : En} {c' : Conn} (r' : w'.row s e' c') (st' : c'.x.st = 3) {n : Int} (hn : (w.G s).U ≤ n ∧ n ≤ (w.G s).U + 17) (hu : c'.sndUna = ((w.G s).iss + 1 + n) % 256) : (w'.G s).U = n := by
  have m' := E.mut m
  have le := (E.g s m.hi).1
  have hS := I.U_b m r (by omega)
  have g' := I'.gh s m'.hi
  have rel' : ∃ q, Rel c' (w'.G s) (w'.N s).sent (w'.G q) (w'.N q).sent := by
    cases I'.sta s m'.hi e' c' r' with
    | syn cl pe o => have := o.st; omega
    | srv p cl pe o => have := o.st; omega
    | well p mm rel wl => exact ⟨p, rel⟩
    | bad st4 => omega
  obtain ⟨q, rel'⟩ := rel'
  have h1 := rel'.sndUna
  rw [hu, le.iss] at h1
  have h2 := le.U
  have h3 : (w'.G s).U ≤ (w'.N s).sent.length + 1 := by
    have a := g'.ux; have b := g'.xn; have := b2_b (w'.G s).fa
    unfold Gh.U; omega
  rw [(E.se s m.hi).1] at h3
  have h4 : (w.G s).u ≤ (w.G s).U := by have := b2_b (w.G s).fa; unfold Gh.U; omega
  omega
end
/-! ### tokens -/
/-- how far the stream of s to v is to be acknowledged -/
def W.goal (w : W) (s v : Nat) : Int := if ((w.N s).sent.length : Int) ≤ (w.G v).rd + 16 then (w.N s).sent.length + b2 (w.N s).closed else (w.G v).rd + 16
structure ToS (w : W) (r : Rc) (s : Nat) : Prop where
  dst : r.dst = (w.N s).host + 1
  src : r.src = (w.N s).rHost
  dp : r.g.dp = (w.N s).lPort
  sp : r.g.sp = (w.N s).rPort
/-- an acknowledgement beyond n -/
structure AckTok (w : W) (r : Rc) (s : Nat) (n : Int) : Prop where
  to : ToS w r s
  fl : r.g.flags = 2
  a : ∃ a, r.g.ack = ((w.G s).iss + 1 + a) % 256 ∧ n < a ∧ a ≤ (w.G s).X
/-- a refusal that will be heeded -/
structure RstTok (w : W) (r : Rc) (s v : Nat) : Prop where
  to : ToS w r s
  fl : ¬ r.g.flags / 8 * 8 = 0
  pf : (w.G s).pf = true
  seq : r.g.seq = ((w.G v).iss + 1 + (w.G s).R) % 256
/-- what covers n of the stream of s to v -/
structure DatTok (w : W) (r : Rc) (s v : Nat) (n : Int) : Prop where
  to : ToS w r v
  kind : (r.g.flags = 2 ∧ 0 < r.g.data.length) ∨ (r.g.flags = 6 ∧ r.g.data = [] ∧ n = (w.N s).sent.length)
  seq : r.g.seq = ((w.G s).iss + 1 + n) % 256
  row : (∃ e c, w.row v e c) ∨ ((w.G s).pf = true ∧ r.g.ack = ((w.G v).iss + 1 + (w.G s).R) % 256)
section
variable {w w' : W}
theorem ToS.ev (E : Ev w w') {r : Rc} {s : Nat} (hs : s < w.n) (t : ToS w r s) : ToS w' r s := by
  have i := E.id s hs
  exact ⟨by rw [i.host]; exact t.dst, by rw [i.rh]; exact t.src, by rw [i.lp]; exact t.dp, by rw [i.rp]; exact t.sp⟩
theorem AckTok.ev (E : Ev w w') {r : Rc} {s : Nat} {n : Int} (hs : s < w.n) (t : AckTok w r s n) : AckTok w' r s n := by
  obtain ⟨a, a1, a2, a3⟩ := t.a
  have le := (E.g s hs).1
  exact ⟨t.to.ev E hs, t.fl, a, by rw [le.iss]; exact a1, a2, by have := le.X; omega⟩
theorem RstTok.ev (E : Ev w w') (I : Inv w) (I' : Inv w') {r : Rc} {s v : Nat} (m : w.mut s v) (t : RstTok w r s v) : RstTok w' r s v := by
  obtain ⟨p1, p2⟩ := E.pfR I I' m t.pf
  exact ⟨t.to.ev E m.hi, t.fl, p1, by rw [(E.g v m.hp).1.iss, p2]; exact t.seq⟩
theorem DatTok.ev (E : Ev w w') (I : Inv w) (I' : Inv w') (keep : ∀ i e c, i < w.n → w.row i e c → ∃ e' c', w'.row i e' c') {r : Rc} {s v : Nat} {n : Int} (m : w.mut s v) (t : DatTok w r s v n) : DatTok w' r s v n := by
  refine ⟨t.to.ev E m.hp, by rw [(E.se s m.hi).1]; exact t.kind, by rw [(E.g s m.hi).1.iss]; exact t.seq, ?_⟩
  rcases t.row with ⟨e, c, r⟩ | ⟨a, b⟩
  · exact .inl (keep v e c m.hp r)
  · obtain ⟨p1, p2⟩ := E.pfR I I' m a
    exact .inr ⟨p1, by rw [(E.g v m.hp).1.iss, p2]; exact b⟩
theorem goal_ev (E : Ev w w') {s v : Nat} (m : w.mut s v) : w'.goal s v = w.goal s v := by
  unfold W.goal
  rw [(E.se s m.hi).1, (E.se s m.hi).2, (E.g v m.hp).2]
theorem goal_none {w : W} {s v : Nat} (h : (w.N s).sent = []) (hc : (w.N s).closed = false) (hr : 0 ≤ (w.G v).rd) : w.goal s v = 0 := by
  unfold W.goal
  rw [h, hc]
  have : (([] : List Int).length : Int) = 0 := rfl
  rw [this, if_pos (by omega)]; rfl
/-- a segment of an established connection meets a row: whose it is -/
theorem Inv.est_row (I : Inv w) (sy : Syn w) {rc : Rc} (hr : rc ∈ w.D) (hage : w.now - rc.t ≤ 4) {i q : Nat} (mi : w.mut i q) {e0 : En} {c0 : Conn} (r : w.row i e0 c0) (hd : rc.dst = (w.N i).host + 1) (ht : e0.tup rc.g.dp rc.src rc.g.sp) (f1 : rc.g.flags / 8 * 8 = 0) (f2 : rc.g.flags % 2 = 0) :
    ∃ k n, SegV rc.g (w.G q) (w.N q).sent (w.G i).iss k n ∧ 0 ≤ n ∧ n ≤ (w.G q).R ∧ k ≤ (w.G q).X ∧ (w.G q).X ≤ k + 29 + 12 * (w.now - rc.t + 1) ∧ (w.G i).X ≤ n + 29 + 12 * (w.now - rc.t + 1) := by
  have gok := I.gok rc hr
  cases I.recs rc hr hage with
  | syn a s k cl' fl => rw [fl] at f2; exact absurd f2 (by decide)
  | rst k fl => rw [fl] at f1; exact absurd f1 (by decide)
  | sa j q s k cl' pe' fl => rw [fl] at f2; exact absurd f2 (by decide)
  | est a b k n s kk m v a0 ar kx w1 w2 pr =>
    have ma : w.mut i a := I.meet mi.hi r m (I.mir_rec mi.hi r s hd ht) (by
      rcases pr with pr | ⟨_, _, pr⟩
      · exact .inl (pres_row pr)
      · exact .inr (pres_row pr)) (.inr ⟨q, mi⟩)
    have hqa : q = a := mi.right ma
    subst hqa
    have hbi : b = i := m.right ma.symm
    subst hbi
    have h1 := w1.1
    have h2 := w2.1
    rw [sy.tk _ mi.hp] at h1
    rw [sy.tk _ mi.hi] at h2
    exact ⟨k, n, v, a0, ar, kx, h1, h2⟩
end
/-- a record came whole to host h -/
structure DStep (w w' : W) (h : Nat) (r : Rc) (Dn : List Rc) : Prop where
  I : Inv w
  sy : Syn w
  I' : Inv w'
  hr : r ∈ w.D
  age : w.now - r.t ≤ 4
  hd : r.dst = (h : Int) + 1
  ev : Ev w w'
  disp : Disp w w' h r
  D : w'.D = w.D ++ Dn
  lost : (w'.H h).lost = (w.H h).lost
section
variable {w w' : W} {h : Nat} {r : Rc} {Dn : List Rc}
theorem Inv.hits (I : Inv w) {s : Nat} (hs : s < w.n) {e : En} {c : Conn} (rs : w.row s e c) (t : ToS w r s) (hd : r.dst = (h : Int) + 1) : (w.N s).host = (h : Int) ∧ e.tup r.g.dp r.src r.g.sp := by
  have tu := I.tup s hs e c rs
  refine ⟨by have := t.dst; omega, ?_⟩
  rw [t.dp, t.src, t.sp]; exact tu
/-- THE SENDER's side -/
theorem DStep.sndr (d : DStep w w' h r Dn) {s v : Nat} (m : w.mut s v) {e : En} {c : Conn} (rs : w.row s e c) (st : c.x.st = 3) {e' : En} {c' : Conn} (rs' : w'.row s e' c') (st' : c'.x.st = 3) :
    (w.G s).U ≤ (w'.G s).U ∧ (Fresh c → Fresh c') ∧ ((w.G s).U < (w'.G s).U → Fresh c') ∧ ((w'.G s).U = (w.G s).U → 0 < c.x.timer → c'.x.timer = c.x.timer) ∧ (∀ n, n ≤ (w.G s).U → AckTok w r s n → n < (w'.G s).U) ∧ ¬ RstTok w r s v := by
  have I := d.I
  have hle := (d.ev.g s m.hi).1.U
  have rw : Rel c (w.G s) (w.N s).sent (w.G v) (w.N v).sent ∧ Run c (w.G s) := by
    cases I.sta s m.hi e c rs with
    | syn cl pe o => have := o.st; omega
    | srv p cl pe o => have := o.st; omega
    | well p mm rel wl =>
      have : v = p := m.right mm
      subst this
      rcases wl.st with k | k
      · exact ⟨rel, k.1⟩
      · have := k.1; omega
    | bad st4 => omega
  obtain ⟨rel, rn⟩ := rw
  have U0 : ∀ {cc : Conn}, c' = cc → cc.sndUna = c.sndUna → (w'.G s).U = (w.G s).U := fun {cc} h1 h2 =>
    I.U_eq d.I' d.ev m rs st rs' st' (n := (w.G s).U) (by omega) (by rw [h1, h2, rel.sndUna])
  have same : c' = c → (∀ n, n ≤ (w.G s).U → AckTok w r s n → n < (w'.G s).U) → ¬ RstTok w r s v → (w.G s).U ≤ (w'.G s).U ∧ (Fresh c → Fresh c') ∧ ((w.G s).U < (w'.G s).U → Fresh c') ∧ ((w'.G s).U = (w.G s).U → 0 < c.x.timer → c'.x.timer = c.x.timer) ∧ (∀ n, n ≤ (w.G s).U → AckTok w r s n → n < (w'.G s).U) ∧ ¬ RstTok w r s v := fun hc h1 h2 => by
    have := U0 hc rfl
    subst hc
    exact ⟨hle, id, fun k => by omega, fun _ _ => rfl, h1, h2⟩
  by_cases hit : (w.N s).host = (h : Int) ∧ e.tup r.g.dp r.src r.g.sp
  · obtain ⟨⟨e1, r1⟩, _⟩ := d.disp.hit s e c m.hi hit.1 rs hit.2
    have hc' := (rs'.inj r1).2
    have e0 : c.input r.g = c.inSync r.g := by
      unfold Conn.input; rw [if_neg (by omega), if_neg (by omega), if_pos (.inr st)]
    rw [e0] at hc'
    have gok := I.gok r d.hr
    have fb := gok.flags
    -- no refusal is heeded
    have noR : ¬ RstTok w r s v := fun t => by
      have hz : seqDiff r.g.seq c.rcvNxt = 0 := by
        rw [t.seq, rel.rcvNxt]; unfold seqDiff; omega
      rw [inSync_rst1 t.fl (by rw [hz]; decide) (by rw [hz]; decide)] at hc'
      rw [hc'] at st'
      exact absurd (show (4 : Int) = 3 from st') (by decide)
    by_cases hf : r.g.flags / 8 * 8 = 0 ∧ r.g.flags % 2 = 0 ∧ ¬ r.g.flags / 2 % 2 * 2 = 0
    · rw [inSync_ack hf.1 hf.2.1 hf.2.2 (by omega)] at hc'
      obtain ⟨k, nn, vv, n0, nR, kX, w1, w2⟩ := I.est_row d.sy d.hr d.age m rs (by rw [hit.1]; exact d.hd) hit.2 hf.1 hf.2.1
      have hRX := (I.pair s v m).RX
      have ux := rel.UX
      have rt : r.t ≤ w.now := by
        have h1 := (I.hist.ok r.dgr (List.mem_map_of_mem d.hr)).2
        have h2 := (I.hT (r.src - 1).toNat).1
        have e : r.dgr.t = r.t := rfl
        have e2 : w.T r.dgr.src = (w.H (r.src - 1).toNat).clock := rfl
        rw [e, e2] at h1; omega
      have age := d.age
      rw [hc'] at st'
      obtain ⟨t1, t2, t3, t4⟩ := rel.tmIn rn gok vv.ack (by omega) (by omega) st'
      rw [← hc'] at t1 t2 t3 t4 st'
      have hu : (w'.G s).U = max (w.G s).U nn := I.U_eq d.I' d.ev m rs st rs' st' (by omega) t1
      refine ⟨hle, t3, fun k => t2 (by omega), fun k => t4 (by omega), fun n hn t => ?_, noR⟩
      obtain ⟨a, a1, a2, a3⟩ := t.a
      by_cases hx : n < (w.G s).U
      · omega
      · have := vv.ack
        rw [a1] at this
        omega
    · rcases sync_cases c r.g with k | k | ⟨k, _⟩ | ⟨_, k⟩ | ⟨k, _⟩ | ⟨k1, k2, k3, _⟩
      · rw [k] at hc'; rw [hc'] at st'; exact absurd (show (4 : Int) = 3 from st') (by decide)
      · rw [k] at hc'
        exact same hc' (fun n _ t => absurd ⟨by rw [t.fl]; decide, by rw [t.fl]; decide, by rw [t.fl]; decide⟩ hf) noR
      · omega
      · rw [k] at hc'
        exact same hc' (fun n _ t => absurd ⟨by rw [t.fl]; decide, by rw [t.fl]; decide, by rw [t.fl]; decide⟩ hf) noR
      · omega
      · exact absurd ⟨k1, k2, k3⟩ hf
  · have r1 := d.disp.miss s e c m.hi rs hit
    have hc' := (rs'.inj r1).2
    exact same hc' (fun n _ t => absurd (I.hits m.hi rs t.to d.hd) hit) (fun t => hit (I.hits m.hi rs t.to d.hd))
/-- THE RECEIVER's side -/
theorem DStep.rcvr (d : DStep w w' h r Dn) {s v : Nat} (m : w.mut s v) {e : En} {c : Conn} (rs : w.row s e c) (st : c.x.st = 3) {n : Int} (hU : (w.G s).U = n) (hg : n < w.goal s v) (nf : ∀ e c, w.row v e c → c.x.st = 4 → c.x.why = 0) (T : DatTok w r s v n)
    (norow : (∀ e c, ¬ w.row v e c) → ∀ j e c, j < w.n → w.row j e c → mir (w.N s) (w.N j) → False) : ∃ r', r' ∈ Dn ∧ (AckTok w' r' s n ∨ RstTok w' r' s v) := by
  have I := d.I
  have gok := I.gok r d.hr
  have hm := I.mir_of_mut m
  have gs := I.gh s m.hi
  have gv := I.gh v m.hp
  have prs := I.pair s v m
  have prv := I.pair v s m.symm
  have f1 : r.g.flags / 8 * 8 = 0 := by rcases T.kind with k | k <;> rw [k.1] <;> decide
  have f2 : r.g.flags % 2 = 0 := by rcases T.kind with k | k <;> rw [k.1] <;> decide
  have f3 : ¬ r.g.flags / 2 % 2 * 2 = 0 := by rcases T.kind with k | k <;> rw [k.1] <;> decide
  have hhv : (w.N v).host = (h : Int) := by have := T.to.dst; have := d.hd; omega
  -- the goal
  have hgS : n ≤ (w.N s).sent.length ∧ (n < (w.N s).sent.length → n < (w.G v).rd + 16) := by
    have := b2_b (w.N s).closed
    unfold W.goal at hg
    split at hg
    · omega
    · omega
  -- an acknowledgement of row v is a token
  have tok : ∀ (ev : En) (cv : Conn), w.row v ev cv → ∀ σ : Seg, (∃ r', r' ∈ Dn ∧ r'.src = (h : Int) + 1 ∧ r'.dst = ev.rHost ∧ r'.g = stamp ev σ) → σ.flags = 2 → (∃ R, σ.ack = ((w.G s).iss + 1 + R) % 256 ∧ n < R ∧ R ≤ (w.G s).X) → ∃ r', r' ∈ Dn ∧ (AckTok w' r' s n ∨ RstTok w' r' s v) := fun ev cv rv σ ⟨r', q1, q2, q3, q4⟩ hfl ⟨R, k1, k2, k3⟩ => by
    have tu := I.tup v m.hp ev cv rv
    refine ⟨r', q1, .inl (AckTok.ev d.ev m.hi ⟨⟨?_, ?_, ?_, ?_⟩, ?_, R, ?_, k2, k3⟩)⟩
    · rw [q3, tu.2.1]; exact hm.2.1.symm
    · rw [q2, ← hhv]; exact hm.1
    · rw [q4]; show ev.rPort = _; rw [tu.2.2]; exact hm.2.2.1.symm
    · rw [q4]; show ev.lPort = _; rw [tu.1]; exact hm.2.2.2.symm
    · rw [q4]; exact hfl
    · rw [q4]; exact k1
  by_cases hrv : ∃ e c, w.row v e c
  · obtain ⟨ev, cv, rv⟩ := hrv
    obtain ⟨ht1, ht2⟩ := I.hits m.hp rv T.to d.hd
    obtain ⟨_, hsent⟩ := d.disp.hit v ev cv m.hp ht1 rv ht2
    have sent := hsent Dn d.D d.lost
    obtain ⟨k, nn, vv, n0, nR, kX, w1, w2⟩ := I.est_row d.sy d.hr d.age m.symm rv (by rw [ht1]; exact d.hd) ht2 f1 f2
    have rt : r.t ≤ w.now := by
      have h1 := (I.hist.ok r.dgr (List.mem_map_of_mem d.hr)).2
      have h2 := (I.hT (r.src - 1).toNat).1
      have e : r.dgr.t = r.t := rfl
      have e2 : w.T r.dgr.src = (w.H (r.src - 1).toNat).clock := rfl
      rw [e, e2] at h1; omega
    have age := d.age
    have hRXv := prv.RX
    have hRXs := prs.RX
    have hURs := prs.UR
    have hURv := prv.UR
    have hXs : (w.G s).X ≤ (w.G s).u + 17 := by have := gs.xu; have := b2_b (w.G s).f; unfold Gh.X; omega
    have hus : (w.G s).u ≤ (w.G s).U := by have := b2_b (w.G s).fa; unfold Gh.U; omega
    have hUX : (w.G s).U ≤ (w.G s).X := by omega
    have hkn : k = n := by
      have h1 := vv.seq
      rw [T.seq] at h1
      omega
    have xs1 := gs.ux
    have xs2 := gs.xn
    have xXs : (w.G s).x ≤ (w.G s).X := by have := b2_b (w.G s).f; unfold Gh.X; omega
    have rRv : (w.G v).r ≤ (w.G v).R := by have := b2_b (w.G v).pf; unfold Gh.R; omega
    have hurv := prs.ur
    have hrxv := prs.rx
    have us0 := gs.u0
    have cov : Cov r.g k n := by
      refine ⟨by omega, ?_⟩
      rcases T.kind with q | q
      · left; omega
      · right; refine ⟨q.1, ?_⟩; rw [q.2.1]; show n = k + ((0 : Nat) : Int); omega
    have hwn : n < k + r.g.data.length → n < (w.G v).rd + 16 := fun hlt => by
      refine hgS.2 ?_
      have hl : 0 < r.g.data.length := by omega
      have := (vv.data (r.g.data.length - 1) (by omega)).1
      omega
    have inS : ∀ cc : Conn, cc.x.st = 3 → cc.inSync r.g = cc.inAck r.g := fun cc h3 => inSync_ack f1 f2 f3 (by omega)
    cases I.sta v m.hp ev cv rv with
    | syn cl pe o => have := m.pi; omega
    | bad st4 why => have := nf ev cv rv st4; omega
    | well p mm rel wl =>
      have hp : s = p := m.symm.right mm
      subst hp
      rcases wl.st with ⟨rn, nfa⟩ | ⟨st4, hfa, hpf⟩
      · have st3 := rn.st
        have e0 : cv.input r.g = cv.inAck r.g := by
          unfold Conn.input; rw [if_neg (by omega), if_neg (by omega), if_pos (.inr st3)]; exact inS cv st3
        rw [e0] at sent
        obtain ⟨σ, s1, s2, s3⟩ := rel.resp rn vv ⟨by omega, xs2⟩ (fun hh => (gs.f1 hh).1) (by omega) (by omega) (by omega) cov (by omega) hwn
        exact tok ev cv rv σ (sent σ s1) s2 s3
      · have e0 : cv.input r.g = (cv, cv.inQuiet r.g) := by unfold Conn.input; rw [if_pos st4]
        rw [e0] at sent
        have hq : cv.inQuiet r.g = [cv.ack] := by
          unfold Conn.inQuiet
          refine if_pos ⟨wl.why, f1, ?_⟩
          rcases T.kind with q | q
          · exact .inr q.2
          · left; rw [q.1]; decide
        rw [hq] at sent
        refine tok ev cv rv cv.ack (sent cv.ack (List.mem_cons_self ..)) rfl ⟨(w.G v).R, ?_, ?_, hRXs⟩
        · have : cv.ack.ack = cv.rcvNxt := by unfold Conn.ack Conn.mk'; dsimp only; rw [if_neg (by decide)]
          rw [this, rel.rcvNxt]
        · have := (rel.pf1 hpf).2
          unfold Gh.R; rw [hpf, b2_t]; omega
    | srv p cl pe o t pa nx nc wo z zs =>
      have hp : s = p := by have := m.pi; omega
      subst hp
      have st2 := o.st
      have hzz : (w.G v).X = 0 ∧ (w.G v).r = 0 ∧ (w.G v).U = 0 ∧ (w.G v).R = 0 := by rw [z]; exact ⟨rfl, rfl, rfl, rfl⟩
      have nn0 : nn = 0 := by omega
      have hack : r.g.ack = seqAdd cv.x.iss 1 := by
        rw [vv.ack, nn0, o.iss]; unfold seqAdd; omega
      have e0 : cv.input r.g = cv.opened.inAck r.g := by
        unfold Conn.input; rw [if_neg (by omega), if_neg (by omega), if_pos (.inl st2)]
        exact inSync_opened f1 f2 f3 st2 hack
      rw [e0] at sent
      have ok0 := I.row_c m.hp rv
      have ro := Ong.opened (P := (w.N s).sent) (b := (w.G v).b) o (p := w.G s) (r := cv.r) ok0.r (RcvR.zero nx o.av o.ah) (x := cv.opened.x) (Conn.ok_opened ok0).x rfl o.why o.f o.fa o.pf rfl
      rw [← z] at ro
      have eqs : (⟨cv.opened.x, cv.s.reset (seqAdd (w.G v).iss 1), cv.r⟩ : Conn) = cv.opened := by
        have : cv.opened = ⟨cv.opened.x, cv.s.reset (seqAdd cv.x.iss 1), cv.r⟩ := rfl
        rw [this, o.iss]
      rw [eqs] at ro
      obtain ⟨σ, s1, s2, s3⟩ := ro.1.resp ro.2 vv ⟨by omega, xs2⟩ (fun hh => (gs.f1 hh).1) (by omega) (by omega) (by omega) cov (by omega) hwn
      exact tok ev cv rv σ (sent σ s1) s2 s3
  · have hno : ∀ e c, ¬ w.row v e c := fun e c k => hrv ⟨e, c, k⟩
    obtain ⟨hpf, hack⟩ := T.row.resolve_left hrv
    have h3 : h < 3 := by have := I.hostR v m.hp; omega
    have none : ∀ sd e, (w.H h).t.at sd = some e → e.kind = 2 → ¬ e.tup r.g.dp r.src r.g.sp := fun sd e he hk ht => by
      obtain ⟨j, j1, j2, j3, j4, j5, rj⟩ := I.end_of h3 he hk
      have tu := I.tup j j1 e _ rj
      refine norow hno j e _ j1 rj ⟨by rw [j2, ← hhv]; exact hm.1, ?_, ?_, ?_⟩
      · rw [← tu.2.1, ht.2.1, T.to.src]; exact hm.2.1
      · rw [← tu.2.2, ht.2.2, T.to.sp]; exact hm.2.2.1
      · rw [← tu.1, ht.1, T.to.dp]; exact hm.2.2.2
    obtain ⟨e1, q1, q2, q3⟩ := d.disp.none none (by rcases T.kind with k | k <;> rw [k.1] <;> decide) f1
    obtain ⟨r', k1, k2, k3, k4⟩ := q3 Dn d.D d.lost (nobody r.g) (List.mem_cons_self ..)
    rw [q1] at k4
    have hnb : nobody r.g = ⟨r.g.dp, r.g.sp, r.g.ack, 0, 8, 0, []⟩ := by unfold nobody; rw [if_pos f3]
    refine ⟨r', k1, .inr (RstTok.ev d.ev I d.I' m ⟨⟨?_, ?_, ?_, ?_⟩, ?_, hpf, ?_⟩)⟩
    · rw [k3, q2, T.to.src]; exact hm.2.1.symm
    · rw [k2, ← hhv]; exact hm.1
    · rw [k4, hnb]; show r.g.sp = _; rw [T.to.sp]; exact hm.2.2.1.symm
    · rw [k4, hnb]; show r.g.dp = _; rw [T.to.dp]; exact hm.2.2.2.symm
    · rw [k4, hnb]; show ¬ (8 : Int) / 8 * 8 = 0; decide
    · rw [k4, hnb]; exact hack
end
end Go.Proofs.Qxb6500351aGreat
