/- THE PLAIN LAW of the whole network: what holds of it. No Go in sight. -/
import Derived.Test.Qxb6500351aGreatPl17
import Derived.Test.Qxb6500351aGreatMd17
set_option linter.unusedVariables false
set_option linter.unusedSimpArgs false
namespace Go.Proofs.Qxb6500351aGreat
open Go.Eng
/-- the world as the law sees it: three hosts, their accept queues, the clock; the ends and their ghosts, up to what tick each is; all segments that were put out; each address's next number -/
structure W where
  H : Nat → Hst
  q : Nat → Int → List Int
  now : Int
  n : Nat
  N : Nat → Ned
  G : Nat → Gh
  tk : Nat → Int
  D : List Rc
  M : Int → Int
def W.host (w : W) (i : Nat) : Hst := w.H (w.N i).host.toNat
structure W.row (w : W) (i : Nat) (e : En) (c : Conn) : Prop where
  at_ : (w.host i).t.at (w.N i).sd = some e
  kind : e.kind = 2
  c : c = (w.host i).c e.slot.toNat
theorem W.row.inj {w : W} {i : Nat} {e e' : En} {c c' : Conn} (h : w.row i e c) (h' : w.row i e' c') : e = e' ∧ c = c' := by
  have h1 := h.at_
  rw [h'.at_] at h1
  cases h1
  exact ⟨rfl, h.c.trans h'.c.symm⟩
/-- the end's row is there, and if it has ended it stays for q more ticks -/
def W.pres (w : W) (i : Nat) (q : Int) : Prop := ∃ e c, w.row i e c ∧ (c.x.st = 4 → q ≤ c.x.quiet)
def W.win (w : W) (i : Nat) (B : Int) : Prop := (w.G i).X ≤ B ∧ ∀ e c, w.row i e c → c.x.st ≠ 4 → (w.G i).X + c.x.credit ≤ B
def twin (x y : Ned) : Prop := x.host = y.host ∧ x.lPort = y.lPort ∧ x.rHost = y.rHost ∧ x.rPort = y.rPort
def mir (x y : Ned) : Prop := y.host + 1 = x.rHost ∧ x.host + 1 = y.rHost ∧ x.lPort = y.rPort ∧ x.rPort = y.lPort
theorem mir.symm {x y : Ned} (h : mir x y) : mir y x := ⟨h.2.1, h.1, h.2.2.2.symm, h.2.2.1.symm⟩
theorem mir.twin {x y z : Ned} (h : mir x y) (k : mir x z) : twin y z := ⟨by have := h.1; have := k.1; omega, h.2.2.2.symm.trans k.2.2.2, h.2.1.symm.trans k.2.1, h.2.2.1.symm.trans k.2.2.1⟩
theorem twin.symm {x y : Ned} (h : twin x y) : twin y x := ⟨h.1.symm, h.2.1.symm, h.2.2.1.symm, h.2.2.2.symm⟩
theorem twin.trans {x y z : Ned} (h : twin x y) (k : twin y z) : twin x z := ⟨h.1.trans k.1, h.2.1.trans k.2.1, h.2.2.1.trans k.2.2.1, h.2.2.2.trans k.2.2.2⟩
/-- two ends that know each other: i the client's, p the child's -/
structure W.mut (w : W) (i p : Nat) : Prop where
  hi : i < w.n
  hp : p < w.n
  ip : (w.N i).peer = (p : Int)
  pi : (w.N p).peer = (i : Int)
theorem W.mut.symm {w : W} {i p : Nat} (h : w.mut i p) : w.mut p i := ⟨h.hp, h.hi, h.pi, h.ip⟩
/-- one end's ghost -/
structure GhOk (g : Gh) (x : Ned) : Prop where
  iss : 0 ≤ g.iss ∧ g.iss < 256
  u0 : 0 ≤ g.u
  ux : g.u ≤ g.x
  xn : g.x ≤ x.sent.length
  r0 : 0 ≤ g.r
  f1 : g.f = true → g.x = x.sent.length ∧ x.closed = true
  fa1 : g.fa = true → g.f = true ∧ g.u = x.sent.length
  xu : g.x ≤ g.u + 16
  rd : 0 ≤ g.rd ∧ g.rd ≤ g.r
  rw_ : g.r ≤ g.rd + 16
structure PairOk (g p : Gh) : Prop where
  ur : g.u ≤ p.r
  rx : p.r ≤ g.x
  fa : g.fa = true → p.pf = true
  pf : p.pf = true → g.f = true ∧ p.r = g.x
inductive Sta (w : W) (i : Nat) (e : En) (c : Conn) : Prop where
  | syn (cl : (w.N i).client = true) (pe : (w.N i).peer = -1) (o : Ong c 1 (w.G i).iss) (t : w.tk i + rem c.x ≤ (w.G i).b + 30) (pa : e.parent = 0) (nc : (w.N i).closed = false) (wo : (w.N i).wasOpen = false) (z : w.G i = Gh.new (w.G i).iss (w.G i).b) (zs : (w.N i).sent = [])
  | srv (p : Nat) (cl : (w.N i).client = false) (pe : (w.N i).peer = (p : Int)) (o : Ong c 2 (w.G i).iss) (t : w.tk i + rem c.x ≤ (w.G i).b + 30) (pa : e.parent ≠ 0) (nx : c.r.nxt = ((w.G p).iss + 1) % 256) (nc : (w.N i).closed = false) (wo : (w.N i).wasOpen = false) (z : w.G i = Gh.new (w.G i).iss (w.G i).b) (zs : (w.N i).sent = [])
  | well (p : Nat) (m : w.mut i p) (r : Rel c (w.G i) (w.N i).sent (w.G p) (w.N p).sent) (o : Well c (w.G i)) (wc : c.x.weClosed = (w.N i).closed) (wo : (w.N i).wasOpen = true) (b : c.x.st = 4 → (w.G i).b + 10 ≤ w.tk i + c.x.quiet)
  | bad (st : c.x.st = 4) (why : 17 ≤ c.x.why) (av : c.r.avail = 0) (pf : c.x.peerFin = false) (b : (w.G i).b + 10 ≤ w.tk i + c.x.quiet)
/-- a segment that was put out lately -/
structure W.seg (w : W) (r : Rc) (i : Nat) : Prop where
  hi : i < w.n
  src : r.src = (w.N i).host + 1
  dst : r.dst = (w.N i).rHost
  sp : r.g.sp = (w.N i).lPort
  dp : r.g.dp = (w.N i).rPort
inductive RecOk (w : W) (r : Rc) : Prop where
  | syn (i : Nat) (s : w.seg r i) (k : r.k = .syn i) (cl : (w.N i).client = true) (fl : r.g.flags = 1) (sq : r.g.seq = (w.G i).iss) (da : r.g.data = []) (t : (w.G i).b ≤ r.t ∧ r.t ≤ (w.G i).b + 30) (pr : w.pres i (10 - (w.tk i - r.t))) (op : ∀ j : Nat, (w.N i).peer = (j : Int) → w.pres j (6 - (w.tk j - r.t)))
  | sa (i p : Nat) (s : w.seg r i) (k : r.k = .sa i) (cl : (w.N i).client = false) (pe : (w.N i).peer = (p : Int)) (fl : r.g.flags = 3) (sq : r.g.seq = (w.G i).iss) (ak : r.g.ack = ((w.G p).iss + 1) % 256) (da : r.g.data = []) (t : (w.G i).b ≤ r.t ∧ r.t ≤ (w.G i).b + 30) (pr : w.pres i (10 - (w.tk i - r.t)))
  | est (i p : Nat) (k a : Int) (s : w.seg r i) (kk : r.k = .est i k a) (m : w.mut i p) (v : SegV r.g (w.G i) (w.N i).sent (w.G p).iss k a) (a0 : 0 ≤ a) (ar : a ≤ (w.G i).R) (kx : k ≤ (w.G i).X) (w1 : w.win i (k + 29 + 12 * (w.tk i - r.t + 1))) (w2 : w.win p (a + 29 + 12 * (w.tk p - r.t + 1))) (pr : w.pres i (10 - (w.tk i - r.t)) ∨ (r.g.data = [] ∧ r.g.flags = 2 ∧ w.pres p (6 - (w.tk p - r.t))))
  | rst (k : r.k = .rst) (fl : r.g.flags / 8 = 1)
structure HInv (H : Hst) (q : Int → List Int) (h : Nat) : Prop where
  addr : H.addr = (h : Int) + 1
  p : H.p.Ok
  pa : H.p.addr = H.addr
  c : ∀ k, (H.c k).Ok
  good : H.t.Good q
  k : H.t.K
  tok : H.t.Ok
  idle : ∀ s : Nat, s < 4 → (∀ sd e, H.t.at sd = some e → e.kind = 2 → e.slot ≠ (s : Int)) → (H.c s).x.st = 0
def W.T (w : W) (s : Int) : Int := (w.H (s - 1).toNat).clock
def W.C (w : W) (s : Int) : Int := (w.H (s - 1).toNat).p.credit
structure Inv (w : W) : Prop where
  hi : ∀ h, h < 3 → HInv (w.H h) (w.q h) h
  hT : ∀ h, (w.H h).clock ≤ w.now ∧ 0 ≤ (w.H h).p.credit ∧ (w.H h).p.credit ≤ 24
  hist : Hist (dgs w.D) w.T w.M w.C
  nxt : ∀ h, h < 3 → (w.H h).p.nxt_ = w.M ((h : Int) + 1) % 256
  ra : ∀ h, h < 3 → RA (w.H h).p (dgs w.D) (w.H h).clock
  tkn : ∀ i, i < w.n → w.tk i ≤ w.now ∧ w.now ≤ w.tk i + 1 ∧ (w.G i).b ≤ w.tk i
  hostR : ∀ i, i < w.n → 0 ≤ (w.N i).host ∧ (w.N i).host < 3
  ends : ∀ h, h < 3 → ∀ sd e, (w.H h).t.at sd = some e → e.kind = 2 → ∃ i, i < w.n ∧ (w.N i).host = (h : Int) ∧ (w.N i).sd = sd
  tup : ∀ i, i < w.n → ∀ e c, w.row i e c → e.tup (w.N i).lPort (w.N i).rHost (w.N i).rPort
  uniq : ∀ i j, i < w.n → j < w.n → (w.N i).host = (w.N j).host → (w.N i).sd = (w.N j).sd → i = j
  old : ∀ i, i < w.n → 1 ≤ (w.N i).sd ∧ (w.N i).sd < (w.host i).t.nextSd
  ports : ∀ i, i < w.n → (1 ≤ (w.N i).rHost ∧ (w.N i).rHost ≤ 255) ∧ (1 ≤ (w.N i).rPort ∧ (w.N i).rPort ≤ 15) ∧ ((w.N i).client = true → 8 ≤ (w.N i).lPort ∧ (w.N i).lPort ≤ 15) ∧ ((w.N i).client = false → (1 ≤ (w.N i).lPort ∧ (w.N i).lPort < 8) ∧ 8 ≤ (w.N i).rPort ∧ (w.N i).rHost ≤ 3)
  sta : ∀ i, i < w.n → ∀ e c, w.row i e c → Sta w i e c
  gone : ∀ i, i < w.n → (∀ e c, ¬ w.row i e c) → (w.G i).b + 10 ≤ w.now
  gh : ∀ i, i < w.n → GhOk (w.G i) (w.N i)
  new : ∀ i, i < w.n → (∀ p, ¬ w.mut i p) → w.G i = Gh.new (w.G i).iss (w.G i).b ∧ (w.N i).sent = []
  kid : ∀ i, i < w.n → (w.N i).client = false → ∃ p : Nat, p < i ∧ (w.N i).peer = (p : Int) ∧ (w.N p).client = true ∧ mir (w.N i) (w.N p) ∧ (w.G p).b ≤ (w.G i).b ∧ (w.G i).b ≤ (w.G p).b + 34
  cli : ∀ i, i < w.n → (w.N i).client = true → (w.G i).iss = (w.G i).b % 256 ∧ ((w.N i).peer = -1 ∨ ∃ p : Nat, p < w.n ∧ (w.N i).peer = (p : Int) ∧ (w.N p).client = false ∧ (w.N p).peer = (i : Int))
  ord : ∀ i j, i < j → j < w.n → twin (w.N i) (w.N j) → (∀ e c, ¬ w.row i e c) ∧ (w.G i).b + 10 ≤ (w.G j).b
  p5 : ∀ i p, w.mut i p → (w.N i).client = true → ∀ j, j < w.n → p < j → twin (w.N p) (w.N j) → (i : Int) < (w.N j).peer
  pair : ∀ i p, w.mut i p → PairOk (w.G i) (w.G p)
  rd : ∀ i, i < w.n → ∀ e c, w.row i e c → e.parent ≠ 0 → e.ready = (w.N i).wasOpen
  recs : ∀ r, r ∈ w.D → w.now - r.t ≤ 4 → RecOk w r
  gok : ∀ r, r ∈ w.D → r.g.Ok
section
variable {w : W}
/-- who is there comes last among its twins -/
theorem Inv.last (I : Inv w) {i j : Nat} (hi : i < w.n) (hj : j < w.n) {e e' : En} {c c' : Conn} (ri : w.row i e c) (rj : w.row j e' c') (ht : twin (w.N i) (w.N j)) : i = j := by
  rcases Nat.lt_trichotomy i j with h | h | h
  · exact absurd ri ((I.ord i j h hj ht).1 e c)
  · exact h
  · exact absurd rj ((I.ord j i h hi ht.symm).1 e' c')
theorem Inv.row_last (I : Inv w) {i j : Nat} (hi : i < w.n) (hj : j < w.n) {e : En} {c : Conn} (ri : w.row i e c) (ht : twin (w.N i) (w.N j)) : j ≤ i := by
  rcases Nat.lt_or_ge i j with h | h
  · exact absurd ri ((I.ord i j h hj ht).1 e c)
  · exact h
theorem Inv.mir_of_mut (I : Inv w) {i p : Nat} (m : w.mut i p) : mir (w.N i) (w.N p) := by
  cases hc : (w.N i).client with
  | false =>
    obtain ⟨q, _, h2, _, h4, _⟩ := I.kid i m.hi hc
    have : q = p := by have := m.ip; omega
    subst this; exact h4
  | true =>
    rcases (I.cli i m.hi hc).2 with h | ⟨q, h1, h2, h3, h4⟩
    · have := m.ip; omega
    · have hq : q = p := by have := m.ip; omega
      subst hq
      obtain ⟨i', _, k2, _, k4, _⟩ := I.kid q m.hp h3
      have : i' = i := by omega
      subst this; exact k4.symm
theorem Inv.mut_cl (I : Inv w) {i p : Nat} (m : w.mut i p) : (w.N i).client = !(w.N p).client := by
  cases hc : (w.N i).client with
  | false =>
    obtain ⟨q, _, h2, h3, _⟩ := I.kid i m.hi hc
    have : q = p := by have := m.ip; omega
    subst this; rw [h3]; rfl
  | true =>
    rcases (I.cli i m.hi hc).2 with h | ⟨q, h1, h2, h3, h4⟩
    · have := m.ip; omega
    · have hq : q = p := by have := m.ip; omega
      subst hq; rw [h3]; rfl
theorem W.mut.right {i p q : Nat} (m : w.mut i p) (k : w.mut i q) : p = q := by
  have := m.ip; have := k.ip; omega
/-- A SEGMENT OF AN OPEN CLIENT MEETS ITS PEER'S ROW OR NONE -/
theorem Inv.meet_c (I : Inv w) {i p j : Nat} (m : w.mut i p) (cl : (w.N i).client = true) {ei : En} {ci : Conn} (ri : w.row i ei ci) (hj : j < w.n) {ej : En} {cj : Conn} (rj : w.row j ej cj) (hm : mir (w.N i) (w.N j)) : j = p := by
  have ht : twin (w.N p) (w.N j) := (I.mir_of_mut m).twin hm
  rcases Nat.lt_trichotomy j p with h | h | h
  · exact absurd rj ((I.ord j p h m.hp ht.symm).1 ej cj)
  · exact h
  · have h5 := I.p5 i p m cl j hj h ht
    -- the child's own client is a later twin of i: then i's row is gone
    have hcj : (w.N j).client = false := by
      cases hc : (w.N j).client with
      | false => rfl
      | true =>
        have h1 := ((I.ports j hj).2.2.1 hc).1
        have h2 := (I.mut_cl m).symm
        rw [cl] at h2
        have h3 : (w.N p).client = false := by cases hp : (w.N p).client <;> rw [hp] at h2 <;> simp_all
        have h4 := ((I.ports p m.hp).2.2.2 h3).1
        have := ht.2.1; omega
    obtain ⟨q, q1, q2, q3, q4, _⟩ := I.kid j hj hcj
    have hiq : i < q := by omega
    exact absurd ri ((I.ord i q hiq (by omega) (hm.symm.twin q4)).1 ei ci)
/-- A SEGMENT OF A CHILD MEETS, AT AN OPEN CLIENT, ITS PEER -/
theorem Inv.meet_s (I : Inv w) {i p j : Nat} (m : w.mut i p) (cl : (w.N i).client = true) {ei : En} {ci : Conn} (ri : w.row i ei ci) (hj : j < w.n) {ej : En} {cj : Conn} (rj : w.row j ej cj) (hm : mir (w.N i) (w.N j)) : j = p := I.meet_c m cl ri hj rj hm
end
end Go.Proofs.Qxb6500351aGreat
