/- THE PLAIN LAW of an open connection: what it takes in and puts out belongs to the two streams. No Go in sight. -/
import Derived.Test.Qxb6500351aGreatPl14
set_option linter.unusedVariables false
set_option linter.unusedSimpArgs false
namespace Go.Proofs.Qxb6500351aGreat
open Go.Eng
def Gh.X (g : Gh) : Int := g.x + b2 g.f
def Gh.U (g : Gh) : Int := g.u + b2 g.fa
def Gh.R (g : Gh) : Int := g.r + b2 g.pf
theorem b2_t : b2 true = 1 := rfl
theorem b2_f : b2 false = 0 := rfl
/-- a connection block c, its end's ghost g and stream S, its peer's ghost p and stream P -/
structure Rel (c : Conn) (g : Gh) (S : List Int) (p : Gh) (P : List Int) : Prop where
  ok : c.Ok
  s : SndR c.s g.iss g.u g.x S
  r : RcvR c.r p.iss g.r (P.take p.x.toNat)
  r0 : 0 ≤ g.r
  f : c.x.finSent = g.f
  fa : c.x.finAcked = g.fa
  pf : c.x.peerFin = g.pf
  wc : g.f = true → c.x.weClosed = true
  f1 : g.f = true → g.x = S.length
  fa1 : g.fa = true → g.f = true ∧ g.u = S.length
  pf1 : g.pf = true → p.f = true ∧ g.r = P.length
  rdq : g.r = g.rd + c.r.avail
/-- a segment of the end's own stream: the place k, the number a that it acknowledges -/
structure SegV (s : Seg) (g : Gh) (S : List Int) (piss : Int) (k a : Int) : Prop where
  ok : s.Ok
  flags : s.flags = 2 ∨ (s.flags = 6 ∧ g.f = true ∧ k + s.data.length = S.length)
  seq : s.seq = (g.iss + 1 + k) % 256
  ack : s.ack = (piss + 1 + a) % 256
  k0 : 0 ≤ k
  data : ∀ j : Nat, j < s.data.length → k + j < g.x ∧ s.data.getD j 0 = S.getD (k + j).toNat 0
/-- the ghost goes on -/
structure Gh.Le (g h : Gh) : Prop where
  iss : h.iss = g.iss
  b : h.b = g.b
  u : g.u ≤ h.u
  x : g.x ≤ h.x
  r : g.r ≤ h.r
  f : g.f = true → h.f = true
  fa : g.fa = true → h.fa = true
  pf : g.pf = true → h.pf = true
theorem Gh.Le.refl (g : Gh) : g.Le g := ⟨rfl, rfl, by omega, by omega, by omega, id, id, id⟩
theorem Gh.Le.trans {g h k : Gh} (a : g.Le h) (b : h.Le k) : g.Le k := ⟨b.iss.trans a.iss, b.b.trans a.b, by have := a.u; have := b.u; omega, by have := a.x; have := b.x; omega, by have := a.r; have := b.r; omega, fun h => b.f (a.f h), fun h => b.fa (a.fa h), fun h => b.pf (a.pf h)⟩
theorem b2_mono {a b : Bool} (h : a = true → b = true) : b2 a ≤ b2 b := by
  cases a <;> cases b <;> simp_all [b2]
theorem Gh.Le.X {g h : Gh} (a : g.Le h) : g.X ≤ h.X := by have := a.x; have := b2_mono a.f; unfold Gh.X; omega
theorem Gh.Le.U {g h : Gh} (a : g.Le h) : g.U ≤ h.U := by have := a.u; have := b2_mono a.fa; unfold Gh.U; omega
theorem Gh.Le.R {g h : Gh} (a : g.Le h) : g.R ≤ h.R := by have := a.r; have := b2_mono a.pf; unfold Gh.R; omega
theorem SegV.mono {s : Seg} {g h : Gh} {S T : List Int} {piss k a : Int} (v : SegV s g S piss k a) (l : g.Le h) (hx : g.x ≤ S.length) (he : ∃ l, T = S ++ l) (hf : g.f = true → T = S) : SegV s h T piss k a := by
  have hxx := l.x
  refine ⟨v.ok, ?_, by rw [l.iss]; exact v.seq, v.ack, v.k0, fun j hj => ?_⟩
  · rcases v.flags with h1 | ⟨h1, h2, h3⟩
    · exact .inl h1
    · exact .inr ⟨h1, l.f h2, by rw [hf h2]; exact h3⟩
  · obtain ⟨h1, h2⟩ := v.data j hj
    refine ⟨by omega, ?_⟩
    obtain ⟨m, rfl⟩ := he
    have := v.k0
    rw [h2, List.getD_eq_getElem?_getD, List.getD_eq_getElem?_getD, List.getElem?_append_left (by omega)]
section
variable {c : Conn} {g : Gh} {S : List Int} {p : Gh} {P : List Int}
theorem Rel.ux (h : Rel c g S p P) : g.u ≤ g.x ∧ g.x ≤ S.length ∧ g.x ≤ g.u + 16 ∧ 0 ≤ g.u := by
  have h1 := h.s.ux; have h2 := h.s.xn; have h3 := h.s.cnt; have h4 := h.ok.s.count; have := h.s.u0
  exact ⟨h1, h2, by omega, this⟩
theorem Rel.UX (h : Rel c g S p P) : g.U ≤ g.X ∧ g.X ≤ g.u + 17 ∧ g.u ≤ g.U := by
  obtain ⟨h1, h2, h3, h4⟩ := h.ux
  have hb := b2_b g.f; have hb2 := b2_b g.fa
  refine ⟨?_, by unfold Gh.X; omega, by unfold Gh.U; omega⟩
  unfold Gh.U Gh.X
  cases hf : g.fa with
  | false => rw [b2_f]; omega
  | true =>
    obtain ⟨k1, k2⟩ := h.fa1 hf
    rw [k1, b2_t]; omega
theorem Rel.sndUna (h : Rel c g S p P) : c.sndUna = (g.iss + 1 + g.U) % 256 := by
  have := h.s.una
  unfold Conn.sndUna Gh.U
  rw [h.fa]
  cases g.fa with
  | true => rw [if_pos rfl, b2_t]; unfold seqAdd; omega
  | false => rw [if_neg (by decide), b2_f]; omega
theorem Rel.flying (h : Rel c g S p P) (h1 : c.x.st ≠ 1) (h2 : c.x.st ≠ 2) : c.flying = g.X - g.U := by
  have hs := h.s.snt
  unfold Conn.flying Gh.X Gh.U
  rw [if_neg (by omega), h.f, h.fa]
  cases hf : g.f with
  | true =>
    cases hfa : g.fa with
    | true => rw [if_neg (by decide), b2_t]; omega
    | false => rw [if_pos (by decide), b2_t, b2_f]; omega
  | false =>
    cases hfa : g.fa with
    | true => have := (h.fa1 hfa).1; rw [hf] at this; cases this
    | false => rw [if_neg (by decide), b2_f]; omega
theorem Rel.sndNxt (h : Rel c g S p P) (h1 : c.x.st ≠ 1) (h2 : c.x.st ≠ 2) : c.sndNxt = (g.iss + 1 + g.X) % 256 := by
  unfold Conn.sndNxt
  rw [h.flying h1 h2, h.sndUna]
  unfold seqAdd; omega
theorem Rel.rcvNxt (h : Rel c g S p P) : c.rcvNxt = (p.iss + 1 + g.R) % 256 := by
  have := h.r.nxt
  unfold Conn.rcvNxt Gh.R
  rw [h.pf]
  cases g.pf with
  | true => rw [if_pos rfl, b2_t]; unfold seqAdd; omega
  | false => rw [if_neg (by decide), b2_f]; omega
/-- only the control block changes, and nothing that the streams see -/
theorem Rel.ctl (h : Rel c g S p P) {x : Cs} (ok : x.Ok) (h1 : x.finSent = c.x.finSent) (h2 : x.finAcked = c.x.finAcked) (h3 : x.peerFin = c.x.peerFin) (h4 : c.x.weClosed = true → x.weClosed = true) : Rel ⟨x, c.s, c.r⟩ g S p P :=
  ⟨⟨ok, h.ok.s, h.ok.r⟩, h.s, h.r, h.r0, h1.trans h.f, h2.trans h.fa, h3.trans h.pf, fun k => h4 (h.wc k), h.f1, h.fa1, h.pf1, h.rdq⟩
theorem Cs.arm_same (x : Cs) : x.arm.st = x.st ∧ x.arm.why = x.why ∧ x.arm.weClosed = x.weClosed ∧ x.arm.finSent = x.finSent ∧ x.arm.finAcked = x.finAcked ∧ x.arm.peerFin = x.peerFin ∧ x.arm.credit = x.credit ∧ x.arm.iss = x.iss ∧ x.arm.retries = x.retries := by
  unfold Cs.arm; split <;> exact ⟨rfl, rfl, rfl, rfl, rfl, rfl, rfl, rfl, rfl⟩
/-- the timer runs only while something flies -/
structure Run (c : Conn) (g : Gh) : Prop where
  st : c.x.st = 3
  why : c.x.why = 0
  tm : 0 < c.x.timer → g.U < g.X
  fl : g.U < g.X → 0 < c.x.timer
/-- the timer runs behind 'arm' -/
theorem Cs.arm_pos {x : Cs} (h : 0 ≤ x.timer) : 0 < x.arm.timer := by
  unfold Cs.arm
  split
  · show 0 < 2 * (2 : Int) ^ x.retries.toNat
    have : (0 : Int) < 2 ^ x.retries.toNat := Int.pow_pos (by decide)
    omega
  · omega
/-- a pure acknowledgement -/
theorem Rel.ackV (h : Rel c g S p P) (h1 : c.x.st ≠ 1) (h2 : c.x.st ≠ 2) : SegV c.ack g S p.iss g.X g.R := by
  refine ⟨Conn.ok_ack h.ok, .inl rfl, h.sndNxt h1 h2, ?_, ?_, fun j hj => absurd hj (by simp [Conn.ack, Conn.mk'])⟩
  · have e : c.ack.ack = c.rcvNxt := by unfold Conn.ack Conn.mk'; dsimp only; rw [if_neg (by decide)]
    rw [e, h.rcvNxt]
  · obtain ⟨h1, h2, h3, h4⟩ := h.ux
    have := b2_b g.f; unfold Gh.X; omega
/-! ### acknowledgements -/
theorem Rel.ackd (h : Rel c g S p P) (rn : Run c g) {d w : Int} (hd : 0 < d) (hx : d ≤ g.X - g.U) :
    ∃ g', g.Le g' ∧ g'.x = g.x ∧ g'.f = g.f ∧ g'.r = g.r ∧ g'.pf = g.pf ∧ g'.U = g.U + d ∧ Rel (c.ackd d w) g' S p P ∧ Run (c.ackd d w) g' ∧ (c.ackd d w).x.credit = c.x.credit ∧ (c.ackd d w).x.weClosed = c.x.weClosed ∧ g'.rd = g.rd := by
  have hnfa : g.fa = false := by
    cases hfa : g.fa with
    | false => rfl
    | true =>
      obtain ⟨k1, k2⟩ := h.fa1 hfa
      have := h.f1 k1
      unfold Gh.X Gh.U at hx; rw [hfa, k1] at hx; omega
  have hU : g.U = g.u := by unfold Gh.U; rw [hnfa, b2_f]; omega
  have hsnt := h.s.snt
  have hs0 := h.ok.s.sent0
  have key : ∃ g', g.Le g' ∧ g'.x = g.x ∧ g'.f = g.f ∧ g'.r = g.r ∧ g'.pf = g.pf ∧ g'.U = g.U + d ∧ Rel (c.ack0 d w) g' S p P ∧ g'.rd = g.rd := by
    have hok := Conn.ok_ack0 h.ok d w
    by_cases hl : c.s.sent < d
    · -- the FIN is acknowledged
      have hf : g.f = true := by
        cases hf : g.f with
        | true => rfl
        | false => unfold Gh.X at hx; rw [hf, b2_f] at hx; omega
      have hX : g.X = g.x + 1 := by unfold Gh.X; rw [hf, b2_t]
      have hde : d = c.s.sent + 1 := by omega
      refine ⟨{ g with u := g.x, fa := true }, ⟨rfl, rfl, h.s.ux, Int.le_refl _, Int.le_refl _, id, fun _ => rfl, id⟩, rfl, rfl, rfl, rfl, ?_, ?_, rfl⟩
      · show g.x + b2 true = _; rw [b2_t, hU]; omega
      · rw [ack0_fin hl] at hok ⊢
        have hs := h.s.ack h.ok.s hs0 (Int.le_refl _)
        have e : g.u + c.s.sent = g.x := by omega
        rw [e] at hs
        exact ⟨hok, hs, h.r, h.r0, h.f, rfl, h.pf, h.wc, h.f1, fun _ => ⟨hf, h.f1 hf⟩, h.pf1, h.rdq⟩
    · refine ⟨{ g with u := g.u + d }, ⟨rfl, rfl, by dsimp only; omega, Int.le_refl _, Int.le_refl _, id, id, id⟩, rfl, rfl, rfl, rfl, ?_, ?_, rfl⟩
      · show g.u + d + b2 g.fa = g.u + b2 g.fa + d; omega
      · rw [ack0_dat hl] at hok ⊢
        have hs := h.s.ack h.ok.s (d := d) (by omega) (by omega)
        exact ⟨hok, hs, h.r, h.r0, h.f, h.fa, h.pf, h.wc, h.f1, (fun k => by rw [hnfa] at k; cases k), h.pf1, h.rdq⟩
  obtain ⟨g', l, k1, k2, k3, k4, k5, k6, k7⟩ := key
  have hst : (c.ack0 d w).x.st = 3 := rn.st
  refine ⟨g', l, k1, k2, k3, k4, k5, ?_, ?_, ?_, ?_, k7⟩
  · unfold Conn.ackd
    split
    · have ar := Cs.arm_same (c.ack0 d w).x
      exact k6.ctl (Cs.ok_arm k6.ok.x) ar.2.2.2.1 ar.2.2.2.2.1 ar.2.2.2.2.2.1 (fun h => ar.2.2.1.trans h)
    · exact k6
  · have hfl := k6.flying (by omega) (by omega)
    unfold Conn.ackd
    split
    · have ar := Cs.arm_same (c.ack0 d w).x
      exact ⟨ar.1.trans hst, ar.2.1.trans rn.why, fun _ => by omega, fun _ => Cs.arm_pos (Int.le_refl 0)⟩
    · exact ⟨hst, rn.why, fun ht => absurd (show (0 : Int) < 0 from ht) (by omega), fun _ => by omega⟩
  · unfold Conn.ackd; split
    · exact (Cs.arm_same _).2.2.2.2.2.2.1
    · rfl
  · unfold Conn.ackd; split
    · exact (Cs.arm_same _).2.2.1
    · rfl
theorem Rel.acked (h : Rel c g S p P) (rn : Run c g) {s : Seg} {a : Int} (hs : s.ack = (g.iss + 1 + a) % 256) (h1 : a ≤ g.X) (h2 : g.U - a ≤ 100) :
    ∃ g', g.Le g' ∧ g'.x = g.x ∧ g'.f = g.f ∧ g'.r = g.r ∧ g'.pf = g.pf ∧ (g'.U = g.U ∨ g'.U = a) ∧ (c.acked s).1 = true ∧ Rel (c.acked s).2 g' S p P ∧ Run (c.acked s).2 g' ∧ (c.acked s).2.x.credit = c.x.credit ∧ (c.acked s).2.x.weClosed = c.x.weClosed ∧ g'.rd = g.rd := by
  have hst := rn.st
  have hfl := h.flying (by omega) (by omega)
  obtain ⟨b1, b2', b3⟩ := h.UX
  have e : seqDiff s.ack c.sndUna = a - g.U := by rw [hs, h.sndUna]; unfold seqDiff; obtain ⟨_, _, _, _⟩ := h.ux; omega
  by_cases c1 : a - g.U < 0
  · rw [acked_lo (by rw [e]; omega) (by rw [e]; exact c1)]
    exact ⟨g, Gh.Le.refl g, rfl, rfl, rfl, rfl, .inl rfl, rfl, h, rn, rfl, rfl, rfl⟩
  · by_cases c2 : a - g.U = 0
    · rw [acked_eq (by rw [e]; omega) (by rw [e]; exact c1) (by rw [e]; exact c2)]
      obtain ⟨o1, o2, o3, o4, o5, o6, o7⟩ := h.ok.x
      refine ⟨g, Gh.Le.refl g, rfl, rfl, rfl, rfl, .inl rfl, rfl, h.ctl ⟨o1, o2, window_b _, o4, by dsimp only; omega, o6, o7⟩ rfl rfl rfl id, ⟨rn.st, rn.why, rn.tm, rn.fl⟩, rfl, rfl, rfl⟩
    · rw [acked_gt (by rw [e]; omega) (by rw [e]; exact c1) (by rw [e]; exact c2), e]
      obtain ⟨g', k1, k2, k3, k4, k5, k6, k7, k8, k9⟩ := h.ackd rn (d := a - g.U) (w := s.wnd) (by omega) (by omega)
      exact ⟨g', k1, k2, k3, k4, k5, .inr (by omega), rfl, k7, k8, k9⟩
/-! ### data -/
theorem Rel.take (h : Rel c g S p P) {s : Seg} {k a : Int} (v : SegV s p P g.iss k a) (hp : 0 ≤ p.x ∧ p.x ≤ P.length) (hpf : p.f = true → p.x = P.length) (hk : -100 ≤ k - g.r ∧ k - g.r ≤ 100) :
    ∃ g', g.Le g' ∧ g'.x = g.x ∧ g'.f = g.f ∧ g'.u = g.u ∧ g'.fa = g.fa ∧ Rel (c.take s) g' S p P ∧ (c.take s).x.st = c.x.st ∧ (c.take s).x.why = c.x.why ∧ (c.take s).x.timer = c.x.timer ∧ (c.take s).x.credit = c.x.credit ∧ (c.take s).x.weClosed = c.x.weClosed ∧ g'.rd = g.rd := by
  have hlen : (P.take p.x.toNat).length = p.x.toNat := by rw [List.length_take]; omega
  have hins := h.r.ins h.ok.r h.r0 (k := k) v.ok.bytes (by omega) (fun j hj => by
    obtain ⟨q1, q2⟩ := v.data j hj
    have hk0 := v.k0
    refine ⟨by rw [hlen]; omega, ?_⟩
    rw [q2, List.getD_eq_getElem?_getD, List.getD_eq_getElem?_getD, List.getElem?_take, if_pos (by omega)])
  obtain ⟨n, n0, hr, hav⟩ := hins
  rw [← v.seq] at hr hav
  have hro := Rb.ok_ins h.ok.r s.seq v.ok.bytes
  have hrn := hr.rn
  rw [hlen] at hrn
  unfold Conn.take
  by_cases c0 : c.x.peerFin = true
  · rw [if_pos c0]
    exact ⟨g, Gh.Le.refl g, rfl, rfl, rfl, rfl, h, rfl, rfl, rfl, rfl, rfl, rfl⟩
  rw [if_neg c0]
  have hpf0 : g.pf = false := by rw [← h.pf]; simpa using c0
  have base : ∀ x : Cs, x.Ok → x.finSent = c.x.finSent → x.finAcked = c.x.finAcked → x.weClosed = c.x.weClosed → ∀ b : Bool, x.peerFin = b → (b = true → p.f = true ∧ g.r + n = P.length) → Rel ⟨x, c.s, (c.r.ins s.seq s.data).1⟩ { g with r := g.r + n, pf := b } S p P :=
    fun x xo x1 x2 x3 b xb hb => ⟨⟨xo, h.ok.s, hro⟩, h.s, hr, by have := h.r0; dsimp only; omega, x1.trans h.f, x2.trans h.fa, xb, fun k => x3.trans (h.wc k), h.f1, h.fa1, hb, by have := h.rdq; dsimp only; omega⟩
  have le : ∀ b : Bool, g.Le { g with r := g.r + n, pf := b } := fun b => ⟨rfl, rfl, Int.le_refl _, Int.le_refl _, by dsimp only; omega, id, id, (fun k => by rw [hpf0] at k; cases k)⟩
  by_cases c1 : s.flags / 4 % 2 * 4 = 0 ∨ 16 < s.data.length
  · rw [if_pos c1]
    refine ⟨{ g with r := g.r + n, pf := false }, le false, rfl, rfl, rfl, rfl, ?_, rfl, rfl, rfl, rfl, rfl, rfl⟩
    exact base c.x h.ok.x rfl rfl rfl false (by rw [h.pf, hpf0]) (fun k => by cases k)
  rw [if_neg c1]
  by_cases c2 : seqAdd s.seq s.data.length = (c.r.ins s.seq s.data).1.nxt
  · rw [if_pos c2]
    refine ⟨{ g with r := g.r + n, pf := true }, le true, rfl, rfl, rfl, rfl, ?_, rfl, rfl, rfl, rfl, rfl, rfl⟩
    obtain ⟨o1, o2, o3, o4, o5, o6, o7⟩ := h.ok.x
    refine base { c.x with peerFin := true } ⟨o1, o2, o3, o4, o5, o6, o7⟩ rfl rfl rfl true rfl (fun _ => ?_)
    rcases v.flags with hf | ⟨hf, hf2, hf3⟩
    · exact absurd (.inl (by rw [hf]; decide)) c1
    · refine ⟨hf2, ?_⟩
      have e1 := hr.nxt
      have e2 := v.seq
      have hl := v.ok.len
      have := hpf hf2
      rw [e1, e2] at c2
      unfold seqAdd at c2
      omega
  · rw [if_neg c2]
    refine ⟨{ g with r := g.r + n, pf := false }, le false, rfl, rfl, rfl, rfl, ?_, rfl, rfl, rfl, rfl, rfl, rfl⟩
    exact base c.x h.ok.x rfl rfl rfl false (by rw [h.pf, hpf0]) (fun k => by cases k)
end
end Go.Proofs.Qxb6500351aGreat
