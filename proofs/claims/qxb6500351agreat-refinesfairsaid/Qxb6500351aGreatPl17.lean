/- THE PLAIN LAW of an open connection, part 3: ticks and calls; openings. No Go in sight. -/
import Derived.Test.Qxb6500351aGreatPl16
set_option linter.unusedVariables false
set_option linter.unusedSimpArgs false
namespace Go.Proofs.Qxb6500351aGreat
open Go.Eng
section
variable {c : Conn} {g : Gh} {S : List Int} {p : Gh} {P : List Int}
theorem Rel.again (h : Rel c g S p P) (st : c.x.st = 3) (hf : g.U < g.X) : SegV c.again g S p.iss g.u g.R := by
  obtain ⟨u1, u2, u3, u4⟩ := h.ux
  have hcnt := h.s.cnt; have hsnt := h.s.snt
  have hao := Conn.ok_again h.ok
  unfold Conn.again at hao ⊢
  rw [if_neg (by omega), if_neg (by omega)] at hao ⊢
  by_cases hn : 0 < c.s.againN 12
  · rw [if_pos hn] at hao ⊢
    have hb := Sb.againN_b h.ok.s 12
    have hsp := h.s.span h.ok.s (off := 0) (n := c.s.againN 12) (Int.le_refl _) (by have := h.ok.s.sentc; omega)
    have hdl : (c.s.span 0 (c.s.againN 12)).length = (c.s.againN 12).toNat := Sb.span_len _ _
    refine ⟨hao, .inl rfl, h.s.una, ?_, u4, fun j hj => ?_⟩
    · show (if (2 : Int) = 1 then 0 else c.rcvNxt) = _
      rw [if_neg (by decide)]; exact h.rcvNxt
    · have hj : j < (c.s.span 0 (c.s.againN 12)).length := hj
      rw [hdl] at hj
      refine ⟨by omega, ?_⟩
      show (c.s.span 0 (c.s.againN 12)).getD j 0 = _
      rw [hsp, List.getD_eq_getElem?_getD, List.getD_eq_getElem?_getD, List.getElem?_take, if_pos hj, List.getElem?_drop]
      congr 2; omega
  · rw [if_neg hn] at hao ⊢
    have hz : c.s.sent = 0 := by
      have := h.ok.s.sent0
      unfold Sb.againN least at hn; omega
    have hff : g.f = true := by
      cases hff : g.f with
      | true => rfl
      | false =>
        unfold Gh.U Gh.X at hf; rw [hff, b2_f] at hf
        have := b2_b g.fa; omega
    have := h.f1 hff
    refine ⟨hao, .inr ⟨rfl, hff, by show g.u + ((0 : Nat) : Int) = _; omega⟩, h.s.una, ?_, u4, fun j hj => absurd hj (by simp [Conn.mk'])⟩
    show (if (6 : Int) = 1 then 0 else c.rcvNxt) = _
    rw [if_neg (by decide)]; exact h.rcvNxt
/-- A TICK of an open connection: it gives up, or goes on -/
theorem Rel.tick (h : Rel c g S p P) (rn : Run c g) : (c.tick.1.x = (c.fail 19).x ∧ c.tick.1.s = (c.fail 19).s ∧ c.tick.1.r = (c.fail 19).r ∧ c.tick.2 = []) ∨ ∃ g', g.Snd g' ∧ g'.X + c.tick.1.x.credit = g.X + 12 ∧ Rel c.tick.1 g' S p P ∧ Run c.tick.1 g' ∧ Outs c.tick.2 g' S p.iss ∧ c.tick.2.length ≤ 3 ∧ c.tick.1.x.weClosed = c.x.weClosed := by
  obtain ⟨o1, o2, o3, o4, o5, o6, o7⟩ := h.ok.x
  have hst := rn.st
  unfold Conn.tick
  rw [if_neg (by omega), if_neg (by omega)]
  by_cases ht : 0 < c.x.timer
  · rw [if_pos ht]
    dsimp only
    by_cases ht0 : c.x.timer - 1 = 0
    · rw [if_pos ht0]
      by_cases hr : c.x.retries = 3
      · left; rw [if_pos hr]; exact ⟨rfl, rfl, rfl, rfl⟩
      · right
        rw [if_neg hr]
        generalize hx : ({ c.x with credit := 12, timer := c.x.timer - 1, retries := c.x.retries + 1 } : Cs) = x
        have hxo : x.Ok := by rw [← hx]; exact ⟨o1, o2, o3, by dsimp only; omega, by dsimp only; omega, by dsimp only; omega, o7⟩
        have ar := Cs.arm_same x
        have r1 : Rel ⟨x.arm, c.s, c.r⟩ g S p P := h.ctl (Cs.ok_arm hxo) (by rw [ar.2.2.2.1, ← hx]) (by rw [ar.2.2.2.2.1, ← hx]) (by rw [ar.2.2.2.2.2.1, ← hx]) (fun k => by rw [ar.2.2.1, ← hx]; exact k)
        have rn1 : Run ⟨x.arm, c.s, c.r⟩ g := ⟨by rw [ar.1, ← hx]; exact rn.st, by rw [ar.2.1, ← hx]; exact rn.why, fun _ => rn.tm ht, fun _ => Cs.arm_pos hxo.timer.1⟩
        obtain ⟨g', a1, a2, a3, a4, a5, a6, a7⟩ := r1.pump rn1
        have hcr : (⟨x.arm, c.s, c.r⟩ : Conn).x.credit = 12 := by show x.arm.credit = 12; rw [ar.2.2.2.2.2.2.1, ← hx]
        refine ⟨g', a1, by rw [hcr] at a2; exact a2, a3, a4, ?_, by rw [List.length_cons]; omega, ?_⟩
        · have := (Outs.one (r1.again rn1.st (rn.tm ht)) (Int.le_refl _) (by have := rn.tm ht; have := h.UX; omega)).mono a1 h.ux.2.1
          exact this.app a5
        · rw [a7]; show x.arm.weClosed = _; rw [ar.2.2.1, ← hx]
    · right
      rw [if_neg ht0]
      have r1 : Rel ⟨{ c.x with credit := 12, timer := c.x.timer - 1 }, c.s, c.r⟩ g S p P := h.ctl ⟨o1, o2, o3, by dsimp only; omega, o5, by dsimp only; omega, o7⟩ rfl rfl rfl id
      have rn1 : Run ⟨{ c.x with credit := 12, timer := c.x.timer - 1 }, c.s, c.r⟩ g := ⟨rn.st, rn.why, fun _ => rn.tm ht, fun _ => by dsimp only; omega⟩
      obtain ⟨g', a1, a2, a3, a4, a5, a6, a7⟩ := r1.pump rn1
      exact ⟨g', a1, a2, a3, a4, a5, Nat.le_trans a6 (by decide), a7⟩
  · right
    rw [if_neg ht]
    have r1 : Rel ⟨{ c.x with credit := 12 }, c.s, c.r⟩ g S p P := h.ctl ⟨o1, o2, o3, o4, o5, by dsimp only; omega, o7⟩ rfl rfl rfl id
    have rn1 : Run ⟨{ c.x with credit := 12 }, c.s, c.r⟩ g := ⟨rn.st, rn.why, rn.tm, rn.fl⟩
    obtain ⟨g', a1, a2, a3, a4, a5, a6, a7⟩ := r1.pump rn1
    exact ⟨g', a1, a2, a3, a4, a5, Nat.le_trans a6 (by decide), a7⟩
/-- SEND -/
theorem Rel.send (h : Rel c g S p P) (rn : Run c g) {l : List Int} (hl : Bytes l) (he : (c.send l).2.2.2 = 0) :
    c.x.weClosed = false ∧ 0 ≤ (c.send l).2.1 ∧ (c.send l).2.1 ≤ l.length ∧ ∃ g', g.Snd g' ∧ g'.X + (c.send l).1.x.credit = g.X + c.x.credit ∧ Rel (c.send l).1 g' (S ++ l.take (c.send l).2.1.toNat) p P ∧ Run (c.send l).1 g' ∧ Outs (c.send l).2.2.1 g' (S ++ l.take (c.send l).2.1.toNat) p.iss ∧ (c.send l).2.2.1.length ≤ 2 ∧ (c.send l).1.x.weClosed = false := by
  have hst := rn.st
  unfold Conn.send at he ⊢
  rw [if_neg (by omega), if_neg (by omega), if_neg (by omega)] at he ⊢
  by_cases hw : c.x.weClosed = true
  · rw [if_pos hw] at he; exact absurd he (by decide : ¬ (15 : Int) = 0)
  rw [if_neg hw] at he ⊢
  by_cases hc : 0 < l.length ∧ c.s.count = 16
  · rw [if_pos hc] at he; exact absurd he (by decide : ¬ (14 : Int) = 0)
  rw [if_neg hc]
  have hwf : c.x.weClosed = false := by simpa using hw
  have hn : 0 ≤ c.s.putN l ∧ c.s.putN l ≤ l.length := by
    have := h.ok.s.count
    unfold Sb.putN least; omega
  have hf : g.f = false := by
    cases hf : g.f with
    | false => rfl
    | true => exact absurd (h.wc hf) hw
  have hfa : g.fa = false := by
    cases hfa : g.fa with
    | false => rfl
    | true => have := (h.fa1 hfa).1; rw [hf] at this; cases this
  have r1 : Rel ⟨c.x, c.s.put l, c.r⟩ g (S ++ l.take (c.s.putN l).toNat) p P :=
    ⟨⟨h.ok.x, Sb.ok_put h.ok.s hl, h.ok.r⟩, h.s.put h.ok.s l, h.r, h.r0, h.f, h.fa, h.pf, h.wc, (fun k => by rw [hf] at k; cases k), (fun k => by rw [hfa] at k; cases k), h.pf1, h.rdq⟩
  have rn1 : Run ⟨c.x, c.s.put l, c.r⟩ g := ⟨rn.st, rn.why, rn.tm, rn.fl⟩
  obtain ⟨g', a1, a2, a3, a4, a5, a6, a7⟩ := r1.pump rn1
  exact ⟨hwf, hn.1, hn.2, g', a1, a2, a3, a4, a5, a6, a7.trans hwf⟩
/-- CLOSE -/
theorem Rel.close (h : Rel c g S p P) (rn : Run c g) (hw : c.x.weClosed = false) : c.close.2.2 = 0 ∧ ∃ g', g.Snd g' ∧ g'.X + c.close.1.x.credit = g.X + c.x.credit ∧ Rel c.close.1 g' S p P ∧ Run c.close.1 g' ∧ Outs c.close.2.1 g' S p.iss ∧ c.close.2.1.length ≤ 2 ∧ c.close.1.x.weClosed = true := by
  have hst := rn.st
  obtain ⟨o1, o2, o3, o4, o5, o6, o7⟩ := h.ok.x
  unfold Conn.close
  rw [if_neg (by omega), if_neg (by omega), if_neg (by omega), if_neg (by rw [hw]; decide)]
  have r1 : Rel ⟨{ c.x with weClosed := true }, c.s, c.r⟩ g S p P := h.ctl ⟨o1, o2, o3, o4, o5, o6, o7⟩ rfl rfl rfl (fun _ => rfl)
  have rn1 : Run ⟨{ c.x with weClosed := true }, c.s, c.r⟩ g := ⟨rn.st, rn.why, rn.tm, rn.fl⟩
  obtain ⟨g', a1, a2, a3, a4, a5, a6, a7⟩ := r1.pump rn1
  exact ⟨rfl, g', a1, a2, a3, a4, a5, a6, a7⟩
/-- RECV -/
theorem Rel.recv (h : Rel c g S p P) (h12 : c.x.st ≠ 1 ∧ c.x.st ≠ 2) (h4f : c.x.st = 4 → c.x.peerFin = true) {mx : Int} (he : (c.recv mx).2.2.2 = 0) :
    (c.recv mx).2.1 = (P.drop (g.r - c.r.avail).toNat).take (c.r.readN mx).toNat ∧ 0 < c.r.readN mx ∧ c.r.readN mx ≤ c.r.avail ∧ (c.recv mx).1.r.avail = c.r.avail - c.r.readN mx ∧ (c.recv mx).1.x = c.x ∧ Rel (c.recv mx).1 { g with rd := g.rd + c.r.readN mx } S p P ∧ Outs (c.recv mx).2.2.1 { g with rd := g.rd + c.r.readN mx } S p.iss ∧ (c.recv mx).2.2.1.length ≤ 1 ∧ (c.x.st ≠ 3 → (c.recv mx).2.2.1 = []) := by
  unfold Conn.recv at he ⊢
  by_cases h0 : c.x.st = 0
  · rw [if_pos h0] at he; exact absurd he (by decide : ¬ (13 : Int) = 0)
  rw [if_neg h0] at he ⊢
  by_cases h1 : mx ≤ 0
  · rw [if_pos h1] at he; exact absurd he (by decide : ¬ (24 : Int) = 0)
  rw [if_neg h1] at he ⊢
  have hb := Rb.readN_b h.ok.r mx
  have hav := h.r.av
  have hrn := h.r.rn
  by_cases h2 : c.r.avail = 0
  · rw [if_pos h2] at he
    exfalso
    by_cases h3 : c.x.peerFin = true
    · rw [if_pos h3] at he; exact absurd he (by decide : ¬ (16 : Int) = 0)
    · rw [if_neg h3] at he
      by_cases h4 : c.x.st = 4
      · exact h3 (h4f h4)
      · rw [if_neg h4] at he; exact absurd he (by decide : ¬ (14 : Int) = 0)
  rw [if_neg h2]
  have hpos : 0 < c.r.readN mx := by
    have := h.ok.r.av0
    unfold Rb.readN least; omega
  obtain ⟨k1, k2⟩ := h.r.read h.ok.r h.r0 mx
  have r1 : Rel ⟨c.x, c.s, c.r.read mx⟩ { g with rd := g.rd + c.r.readN mx } S p P := ⟨⟨h.ok.x, h.ok.s, Rb.ok_read h.ok.r mx⟩, h.s, k1, h.r0, h.f, h.fa, h.pf, h.wc, h.f1, h.fa1, h.pf1, by have := h.rdq; show g.r = g.rd + c.r.readN mx + (c.r.avail - c.r.readN mx); omega⟩
  refine ⟨?_, hpos, hb.2, rfl, rfl, r1, ?_, ?_, fun h3 => by dsimp only; rw [if_neg (fun k => h3 k.2)]⟩
  · show c.r.first (c.r.readN mx) = _
    rw [k2]
    apply List.ext_getElem
    · simp only [List.length_take, List.length_drop] at hrn ⊢; omega
    · intro i i1 i2
      simp only [List.getElem_take, List.getElem_drop]
  · dsimp only
    split
    · refine Outs.one (r1.ackV h12.1 h12.2) ?_ (Int.le_refl _)
      obtain ⟨u1, _, _, _⟩ := h.ux
      have := b2_b g.f
      show g.u ≤ g.x + b2 g.f
      omega
    · exact Outs.nil _ _ _
  · dsimp only; split <;> simp
end
/-! ### openings -/
def Gh.new (iss b : Int) : Gh := ⟨iss, b, 0, 0, 0, false, false, false, 0⟩
/-- the ticks that an opening has left -/
def rem (x : Cs) : Int := x.timer + 32 - 4 * 2 ^ x.retries.toNat
structure Ong (c : Conn) (st iss : Int) : Prop where
  ok : c.Ok
  st : c.x.st = st
  why : c.x.why = 0
  iss : c.x.iss = iss
  tm : 0 < c.x.timer
  tm2 : c.x.timer ≤ 2 * 2 ^ c.x.retries.toNat
  wc : c.x.weClosed = false
  f : c.x.finSent = false
  fa : c.x.finAcked = false
  pf : c.x.peerFin = false
  av : c.r.avail = 0
  ah : c.r.ahead = 0
theorem RcvR.zero {b : Rb} {piss : Int} (h : b.nxt = (piss + 1) % 256) (ha : b.avail = 0) (hh : b.ahead = 0) : RcvR b piss 0 [] := by
  refine ⟨by rw [h]; congr 1; omega, by omega, by simp, fun k h1 h2 => by omega, fun d h1 h2 => ?_⟩
  rw [hh] at h2; simp at h2
theorem Conn.ok_openAP {c : Conn} (h : c.Ok) (iss : Int) (hi : 0 ≤ iss ∧ iss < 256) : Ong (c.openA iss).1 1 iss ∧ rem (c.openA iss).1.x = 30 := by
  have h1 := (Conn.ok_openA h iss).1
  refine ⟨⟨h1, rfl, rfl, ?_, (by decide : (0 : Int) < 2), (by decide : (2 : Int) ≤ 2 * 2 ^ (0 : Int).toNat), rfl, rfl, rfl, rfl, rfl, rfl⟩, by show (2 : Int) + 32 - 4 * 2 ^ (0 : Int).toNat = 30; decide⟩
  show seqAdd iss 0 = iss
  unfold seqAdd; omega
theorem Conn.ok_openPP {c : Conn} (h : c.Ok) (iss : Int) (hi : 0 ≤ iss ∧ iss < 256) (s : Seg) : Ong (c.openP iss s).1 2 iss ∧ rem (c.openP iss s).1.x = 30 ∧ (c.openP iss s).1.r.nxt = (s.seq + 1) % 256 := by
  have h1 := (Conn.ok_openP h iss s).1
  refine ⟨⟨h1, rfl, rfl, ?_, (by decide : (0 : Int) < 2), (by decide : (2 : Int) ≤ 2 * 2 ^ (0 : Int).toNat), rfl, rfl, rfl, rfl, rfl, rfl⟩, by show (2 : Int) + 32 - 4 * 2 ^ (0 : Int).toNat = 30; decide, ?_⟩
  · show seqAdd iss 0 = iss
    unfold seqAdd; omega
  · show seqAdd (seqAdd s.seq 1) 0 = _
    unfold seqAdd; omega
/-- a tick of an opening: it gives up, or goes on and is one tick nearer its end -/
theorem Ong.tick {c : Conn} {st iss : Int} (h : Ong c st iss) (hs : st = 1 ∨ st = 2) : c.tick.1.x = (c.fail 19).x ∧ c.tick.1.s = (c.fail 19).s ∧ c.tick.1.r = (c.fail 19).r ∧ c.tick.2 = [] ∨ (Ong c.tick.1 st iss ∧ rem c.tick.1.x = rem c.x - 1 ∧ c.tick.1.r = c.r ∧ c.tick.1.s = c.s ∧ (c.tick.2 = [] ∨ c.tick.2 = [c.tick.1.again])) := by
  obtain ⟨o1, o2, o3, o4, o5, o6, o7⟩ := h.ok.x
  have hst := h.st
  have htm := h.tm
  unfold Conn.tick
  rw [if_neg (by omega), if_neg (by omega), if_pos htm]
  dsimp only
  have np : ∀ q : Conn, q.x.st = st → q.pump = (q, []) := fun q hq => Conn.pump_no (by omega)
  by_cases ht0 : c.x.timer - 1 = 0
  · rw [if_pos ht0]
    by_cases hr : c.x.retries = 3
    · left; rw [if_pos hr]; exact ⟨rfl, rfl, rfl, rfl⟩
    · right
      rw [if_neg hr]
      obtain ⟨y, hy, y1, y2, y3, y4, y5, y6, y7, y8, y9, y10, y11, y12⟩ : ∃ y : Cs, ({ c.x with credit := 12, timer := c.x.timer - 1, retries := c.x.retries + 1 } : Cs).arm = y ∧ y.st = c.x.st ∧ y.why = c.x.why ∧ y.iss = c.x.iss ∧ y.weClosed = c.x.weClosed ∧ y.finSent = c.x.finSent ∧ y.finAcked = c.x.finAcked ∧ y.peerFin = c.x.peerFin ∧ y.peerWnd = c.x.peerWnd ∧ y.quiet = c.x.quiet ∧ y.credit = 12 ∧ y.retries = c.x.retries + 1 ∧ y.timer = 2 * 2 ^ (c.x.retries + 1).toNat := by
        refine ⟨_, rfl, ?_⟩
        unfold Cs.arm; dsimp only; rw [if_pos ht0]
        exact ⟨rfl, rfl, rfl, rfl, rfl, rfl, rfl, rfl, rfl, rfl, rfl, rfl⟩
      rw [hy, np ⟨y, c.s, c.r⟩ (y1.trans hst)]
      have h4 : c.x.retries = 0 ∨ c.x.retries = 1 ∨ c.x.retries = 2 := by omega
      refine ⟨⟨⟨⟨by rw [y1]; exact o1, by rw [y3]; exact o2, by rw [y8]; exact o3, ?_, by rw [y11]; omega, by rw [y10]; omega, by rw [y9]; exact o7⟩, h.ok.s, h.ok.r⟩, y1.trans hst, y2.trans h.why, y3.trans h.iss, ?_, ?_, y4.trans h.wc, y5.trans h.f, y6.trans h.fa, y7.trans h.pf, h.av, h.ah⟩, ?_, rfl, rfl, .inr rfl⟩
      · rw [y12]; rcases h4 with h4 | h4 | h4 <;> rw [h4] <;> decide
      · show 0 < y.timer
        rw [y12]; rcases h4 with h4 | h4 | h4 <;> rw [h4] <;> decide
      · show y.timer ≤ 2 * 2 ^ y.retries.toNat
        rw [y12, y11]; exact Int.le_refl _
      · show rem y = rem c.x - 1
        unfold rem
        have : c.x.timer = 1 := by omega
        rw [y12, y11, this]
        rcases h4 with h4 | h4 | h4 <;> rw [h4] <;> decide
  · right
    rw [if_neg ht0]
    obtain ⟨y, hy, y1, y2, y3, y4, y5, y6, y7, y8, y9, y10, y11, y12⟩ : ∃ y : Cs, ({ c.x with credit := 12, timer := c.x.timer - 1 } : Cs) = y ∧ y.st = c.x.st ∧ y.why = c.x.why ∧ y.iss = c.x.iss ∧ y.weClosed = c.x.weClosed ∧ y.finSent = c.x.finSent ∧ y.finAcked = c.x.finAcked ∧ y.peerFin = c.x.peerFin ∧ y.peerWnd = c.x.peerWnd ∧ y.quiet = c.x.quiet ∧ y.credit = 12 ∧ y.retries = c.x.retries ∧ y.timer = c.x.timer - 1 := ⟨_, rfl, rfl, rfl, rfl, rfl, rfl, rfl, rfl, rfl, rfl, rfl, rfl, rfl⟩
    rw [hy, np ⟨y, c.s, c.r⟩ (y1.trans hst)]
    have := h.tm2
    refine ⟨⟨⟨⟨by rw [y1]; exact o1, by rw [y3]; exact o2, by rw [y8]; exact o3, by rw [y12]; omega, by rw [y11]; exact o5, by rw [y10]; omega, by rw [y9]; exact o7⟩, h.ok.s, h.ok.r⟩, y1.trans hst, y2.trans h.why, y3.trans h.iss, by show 0 < y.timer; omega, by show y.timer ≤ 2 * 2 ^ y.retries.toNat; rw [y11, y12]; omega, y4.trans h.wc, y5.trans h.f, y6.trans h.fa, y7.trans h.pf, h.av, h.ah⟩, ?_, rfl, rfl, .inl rfl⟩
    show rem y = rem c.x - 1
    unfold rem; rw [y11, y12]; omega
theorem Ong.rem_pos {c : Conn} {st iss : Int} (h : Ong c st iss) : 0 < rem c.x := by
  have h1 := h.tm
  have h2 := h.ok.x.retr
  have h4 : c.x.retries = 0 ∨ c.x.retries = 1 ∨ c.x.retries = 2 ∨ c.x.retries = 3 := by omega
  unfold rem
  rcases h4 with h4 | h4 | h4 | h4 <;> rw [h4]
  · have : (4 : Int) * 2 ^ (0 : Int).toNat = 4 := by decide
    omega
  · have : (4 : Int) * 2 ^ (1 : Int).toNat = 8 := by decide
    omega
  · have : (4 : Int) * 2 ^ (2 : Int).toNat = 16 := by decide
    omega
  · have : (4 : Int) * 2 ^ (3 : Int).toNat = 32 := by decide
    omega
/-- an opening opens -/
theorem Ong.opened {c : Conn} {st iss b : Int} (h : Ong c st iss) {p : Gh} {P : List Int} {r : Rb} (hr : r.Ok) (h1 : RcvR r p.iss 0 []) {x : Cs} (hx : x.Ok) (x1 : x.st = 3) (x2 : x.why = 0) (x3 : x.finSent = false) (x4 : x.finAcked = false) (x5 : x.peerFin = false) (x6 : x.timer = 0) :
    Rel ⟨x, c.s.reset (seqAdd iss 1), r⟩ (Gh.new iss b) [] p P ∧ Run ⟨x, c.s.reset (seqAdd iss 1), r⟩ (Gh.new iss b) := by
  refine ⟨⟨⟨hx, Sb.ok_reset h.ok.s _, hr⟩, SndR.reset c.s iss, ?_, Int.le_refl _, x3, x4, x5, (fun k => by cases k), (fun k => by cases k), (fun k => by cases k), (fun k => by cases k), ?_⟩, ⟨x1, x2, fun k => by have : (0 : Int) < x.timer := k; omega, fun k => absurd (show (0 : Int) < 0 from k) (by decide)⟩⟩
  have := h1.grow (Int.le_refl _) (P.take p.x.toNat)
  rw [List.nil_append] at this
  · exact this
  · have h1' := h1.av; have h2' := hr.av0
    show (0 : Int) = 0 + r.avail; omega
end Go.Proofs.Qxb6500351aGreat
