/- THE PLAIN LAW of an open connection, part 2: what it puts out. No Go in sight. -/
import Derived.Test.Qxb6500351aGreatPl15
set_option linter.unusedVariables false
set_option linter.unusedSimpArgs false
namespace Go.Proofs.Qxb6500351aGreat
open Go.Eng
def Outs (l : List Seg) (g : Gh) (S : List Int) (piss : Int) : Prop := ∀ s, s ∈ l → ∃ k, SegV s g S piss k g.R ∧ g.u ≤ k ∧ k ≤ g.X
theorem Outs.nil (g : Gh) (S : List Int) (piss : Int) : Outs [] g S piss := fun s h => absurd h (by simp)
theorem Outs.one {s : Seg} {g : Gh} {S : List Int} {piss k : Int} (h : SegV s g S piss k g.R) (hk : g.u ≤ k) (hk2 : k ≤ g.X) : Outs [s] g S piss := fun t ht => by
  have ht : t = s := by simpa using ht
  subst ht; exact ⟨k, h, hk, hk2⟩
theorem Outs.app {l m : List Seg} {g : Gh} {S : List Int} {piss : Int} (a : Outs l g S piss) (b : Outs m g S piss) : Outs (l ++ m) g S piss := fun s h => by
  rcases List.mem_append.1 h with h | h
  · exact a s h
  · exact b s h
/-- the ghost sends on, and nothing else -/
structure Gh.Snd (g h : Gh) : Prop where
  le : g.Le h
  u : h.u = g.u
  r : h.r = g.r
  fa : h.fa = g.fa
  pf : h.pf = g.pf
  rd : h.rd = g.rd
theorem Gh.Snd.refl (g : Gh) : g.Snd g := ⟨Gh.Le.refl g, rfl, rfl, rfl, rfl, rfl⟩
theorem Gh.Snd.trans {g h k : Gh} (a : g.Snd h) (b : h.Snd k) : g.Snd k := ⟨a.le.trans b.le, b.u.trans a.u, b.r.trans a.r, b.fa.trans a.fa, b.pf.trans a.pf, b.rd.trans a.rd⟩
theorem Gh.Snd.R {g h : Gh} (a : g.Snd h) : h.R = g.R := by unfold Gh.R; rw [a.r, a.pf]
theorem Gh.Snd.U {g h : Gh} (a : g.Snd h) : h.U = g.U := by unfold Gh.U; rw [a.u, a.fa]
theorem Outs.mono {l : List Seg} {g h : Gh} {S : List Int} {piss : Int} (a : Outs l g S piss) (b : g.Snd h) (hx : g.x ≤ S.length) : Outs l h S piss := fun s hs => by
  obtain ⟨k, k1, k2, k3⟩ := a s hs
  refine ⟨k, ?_, by rw [b.u]; exact k2, by have := b.le.X; omega⟩
  rw [b.R]
  exact k1.mono b.le hx ⟨[], by simp⟩ (fun _ => rfl)
section
variable {c : Conn} {g : Gh} {S : List Int} {p : Gh} {P : List Int}
theorem Conn.pumpC_stop (h : c.Ok) (hn : ¬ c.pumpN ≤ 0) : c.pumpC.pumpN ≤ 0 := by
  have hN := Conn.nextN_pump h hn
  have hcr := h.x.credit
  have e1 : c.pumpC.s.count = c.s.count := rfl
  have e2 : c.pumpC.s.sent = c.s.sent + c.pumpN := by show c.s.sent + c.s.nextN c.pumpN = _; rw [hN]
  have e3 := c.pumpC_credit
  have e4 : c.pumpC.x.peerWnd = c.x.peerWnd := by unfold Conn.pumpC Cs.arm; dsimp only; split <;> rfl
  generalize hq : c.pumpC = q at *
  unfold Conn.pumpN
  rw [e1, e2, e3, e4]
  have : c.pumpN = min (min (min (c.s.count - c.s.sent) ((if c.x.peerWnd = 0 then 1 else c.x.peerWnd) - c.s.sent)) 12) c.x.credit := rfl
  generalize (if c.x.peerWnd = 0 then 1 else c.x.peerWnd) = w at *
  omega
theorem Conn.pumpL_eq (h : c.Ok) : c.pumpL = if c.pumpN ≤ 0 then (c, []) else (c.pumpC, [c.pumpS]) := by
  split
  · rename_i hn; exact Conn.pumpL_stop hn
  · rename_i hn
    rw [Conn.pumpL_step hn, Conn.pumpL_stop (Conn.pumpC_stop h hn)]
theorem Rel.pumpL (h : Rel c g S p P) (rn : Run c g) : ∃ g', g.Snd g' ∧ g'.X + c.pumpL.1.x.credit = g.X + c.x.credit ∧ Rel c.pumpL.1 g' S p P ∧ Run c.pumpL.1 g' ∧ Outs c.pumpL.2 g' S p.iss ∧ c.pumpL.2.length ≤ 1 ∧ c.pumpL.1.x.weClosed = c.x.weClosed := by
  rw [Conn.pumpL_eq h.ok]
  by_cases hn : c.pumpN ≤ 0
  · rw [if_pos hn]
    exact ⟨g, Gh.Snd.refl g, rfl, h, rn, Outs.nil _ _ _, by simp, rfl⟩
  rw [if_neg hn]
  have hN := Conn.nextN_pump h.ok hn
  have hb := Conn.pumpN_b h.ok
  obtain ⟨u1, u2, u3, u4⟩ := h.ux
  have hcnt := h.s.cnt; have hsnt := h.s.snt
  have hf : g.f = false := by
    cases hf : g.f with
    | false => rfl
    | true => have := h.f1 hf; omega
  have sn := h.s.next h.ok.s c.pumpN
  rw [hN] at sn
  have sx := sn.xn
  have ar := Cs.arm_same ({ c.x with credit := c.x.credit - c.pumpN } : Cs)
  have le : g.Snd { g with x := g.x + c.pumpN } := ⟨⟨rfl, rfl, Int.le_refl _, by dsimp only; omega, Int.le_refl _, id, id, id⟩, rfl, rfl, rfl, rfl, rfl⟩
  have hX : Gh.X { g with x := g.x + c.pumpN } = g.X + c.pumpN := by unfold Gh.X; dsimp only; omega
  have hRel : Rel c.pumpC { g with x := g.x + c.pumpN } S p P := by
    refine ⟨Conn.ok_pumpC h.ok hn, sn, h.r, h.r0, ar.2.2.2.1.trans h.f, ar.2.2.2.2.1.trans h.fa, ar.2.2.2.2.2.1.trans h.pf, ?_, ?_, ?_, h.pf1, h.rdq⟩
    · intro k; rw [hf] at k; cases k
    · intro k; rw [hf] at k; cases k
    · intro k; have := (h.fa1 k).1; rw [hf] at this; cases this
  refine ⟨_, le, ?_, hRel, ⟨ar.1.trans rn.st, ar.2.1.trans rn.why, fun _ => ?_, fun _ => Cs.arm_pos h.ok.x.timer.1⟩, ?_, by simp, ar.2.2.1⟩
  · rw [hX, c.pumpC_credit]; omega
  · rw [hX, le.U]
    have := h.UX.1; omega
  · refine Outs.one (k := g.x) ?_ u1 (by rw [hX]; have := b2_b g.f; unfold Gh.X; omega)
    have hsp := h.s.span h.ok.s (off := c.s.sent) (n := c.pumpN) h.ok.s.sent0 (by omega)
    have hdat : c.pumpS.data = (S.drop g.x.toNat).take c.pumpN.toNat := by
      show c.s.span c.s.sent (c.s.nextN c.pumpN) = _
      rw [hN, hsp]; congr 2; omega
    have hdl : c.pumpS.data.length = c.pumpN.toNat := by
      rw [hdat, List.length_take, List.length_drop]; omega
    refine ⟨Conn.ok_pumpS h.ok hn, .inl rfl, ?_, ?_, by omega, fun j hj => ?_⟩
    · show (c.s.una + c.s.sent) % 256 = _
      have := h.s.una
      show _ = (g.iss + 1 + g.x) % 256
      omega
    · show (if (2 : Int) = 1 then 0 else Conn.rcvNxt ⟨c.x, c.s.next c.pumpN, c.r⟩) = _
      rw [if_neg (by decide), le.R]
      exact h.rcvNxt
    · rw [hdl] at hj
      refine ⟨by show g.x + j < g.x + c.pumpN; omega, ?_⟩
      rw [hdat, List.getD_eq_getElem?_getD, List.getD_eq_getElem?_getD, List.getElem?_take, if_pos hj, List.getElem?_drop]
      congr 2; omega
theorem Rel.pumpE (h : Rel c g S p P) (rn : Run c g) : ∃ g', g.Snd g' ∧ g'.x = g.x ∧ g'.X + c.pumpE.1.x.credit = g.X + c.x.credit ∧ Rel c.pumpE.1 g' S p P ∧ Run c.pumpE.1 g' ∧ Outs c.pumpE.2 g' S p.iss ∧ c.pumpE.2.length ≤ 1 ∧ c.pumpE.1.x.weClosed = c.x.weClosed := by
  unfold Conn.pumpE
  by_cases hc' : ¬ (c.x.weClosed = true ∧ c.x.finSent = false ∧ 0 < c.x.credit ∧ c.s.count - c.s.sent = 0)
  · rw [if_neg hc']
    exact ⟨g, Gh.Snd.refl g, rfl, rfl, h, rn, Outs.nil _ _ _, by simp, rfl⟩
  have hc := Decidable.not_not.1 hc'
  rw [if_pos hc]
  obtain ⟨c1, c2, c3, c4⟩ := hc
  obtain ⟨u1, u2, u3, u4⟩ := h.ux
  have hcnt := h.s.cnt; have hsnt := h.s.snt
  have hf : g.f = false := by rw [← h.f]; exact c2
  have hfa : g.fa = false := by
    cases hfa : g.fa with
    | false => rfl
    | true => have := (h.fa1 hfa).1; rw [hf] at this; cases this
  have ar := Cs.arm_same ({ c.x with finSent := true, credit := c.x.credit - 1 } : Cs)
  have hxn : g.x = S.length := by omega
  have le : g.Snd { g with f := true } := ⟨⟨rfl, rfl, Int.le_refl _, Int.le_refl _, Int.le_refl _, fun _ => rfl, id, id⟩, rfl, rfl, rfl, rfl, rfl⟩
  have hX : Gh.X { g with f := true } = g.X + 1 := by unfold Gh.X; dsimp only; rw [hf, b2_t, b2_f]; omega
  obtain ⟨o1, o2, o3, o4, o5, o6, o7⟩ := h.ok.x
  refine ⟨_, le, rfl, ?_, ?_, ⟨ar.1.trans rn.st, ar.2.1.trans rn.why, fun _ => ?_, fun _ => Cs.arm_pos h.ok.x.timer.1⟩, ?_, by simp, ar.2.2.1⟩
  · rw [hX]
    show _ + ({ c.x with finSent := true, credit := c.x.credit - 1 } : Cs).arm.credit = _
    rw [ar.2.2.2.2.2.2.1]; dsimp only; omega
  · refine ⟨⟨Cs.ok_arm ⟨o1, o2, o3, o4, o5, by dsimp only; omega, o7⟩, h.ok.s, h.ok.r⟩, h.s, h.r, h.r0, ar.2.2.2.1, ar.2.2.2.2.1.trans h.fa, ar.2.2.2.2.2.1.trans h.pf, fun _ => ar.2.2.1.trans c1, fun _ => hxn, ?_, h.pf1, h.rdq⟩
    intro k; rw [hfa] at k; cases k
  · rw [hX, le.U]
    have := h.UX.1; omega
  · refine Outs.one (k := g.x) ?_ u1 (by rw [hX]; have := b2_b g.f; unfold Gh.X; omega)
    refine ⟨Conn.ok_mk h.ok (by omega) (by unfold Sb.nxt; omega) (by simp) bytes_nil, .inr ⟨rfl, rfl, by show g.x + ((0 : Nat) : Int) = _; omega⟩, ?_, ?_, by omega, fun j hj => absurd hj (by simp [Conn.mk'])⟩
    · show (c.s.una + c.s.sent) % 256 = (g.iss + 1 + g.x) % 256
      have := h.s.una
      omega
    · show (if (6 : Int) = 1 then 0 else c.rcvNxt) = _
      rw [if_neg (by decide), le.R]
      exact h.rcvNxt
theorem Rel.pump (h : Rel c g S p P) (rn : Run c g) : ∃ g', g.Snd g' ∧ g'.X + c.pump.1.x.credit = g.X + c.x.credit ∧ Rel c.pump.1 g' S p P ∧ Run c.pump.1 g' ∧ Outs c.pump.2 g' S p.iss ∧ c.pump.2.length ≤ 2 ∧ c.pump.1.x.weClosed = c.x.weClosed := by
  obtain ⟨g1, a1, a2, a3, a4, a5, a6, a7⟩ := h.pumpL rn
  obtain ⟨g2, b1, b2, b3, b4, b5, b6, b7, b8⟩ := a3.pumpE a4
  have e : c.pump = (c.pumpL.1.pumpE.1, c.pumpL.2 ++ c.pumpL.1.pumpE.2) := by unfold Conn.pump; rw [if_pos rn.st]
  rw [e]
  refine ⟨g2, a1.trans b1, by dsimp only; omega, b4, b5, (a5.mono b1 a3.ux.2.1).app b6, by rw [List.length_append]; omega, b8.trans a7⟩
/-! ### a segment comes in -/
/-- the two lives of a connection that went well: open, or ended well and quiet -/
structure Well (c : Conn) (g : Gh) : Prop where
  why : c.x.why = 0
  st : Run c g ∧ ¬ (g.fa = true ∧ g.pf = true) ∨ (c.x.st = 4 ∧ g.fa = true ∧ g.pf = true)
theorem Rel.goodEnd (h : Rel c g S p P) (rn : Run c g) : Rel c.goodEnd g S p P ∧ Well c.goodEnd g ∧ (c.goodEnd.x.st = 4 → c.goodEnd.x.quiet = 10) ∧ c.goodEnd.x.credit ≤ c.x.credit ∧ c.goodEnd.x.weClosed = c.x.weClosed := by
  have hcr := h.ok.x.credit
  by_cases hc : c.x.finAcked = true ∧ c.x.peerFin = true
  · rw [goodEnd_t hc.1 hc.2]
    obtain ⟨o1, o2, o3, o4, o5, o6, o7⟩ := h.ok.x
    refine ⟨h.ctl ⟨by dsimp only; omega, o2, by dsimp only; omega, by dsimp only; omega, by dsimp only; omega, by dsimp only; omega, by dsimp only; omega⟩ rfl rfl rfl id, ⟨rn.why, .inr ⟨rfl, ?_, ?_⟩⟩, fun _ => rfl, ?_, rfl⟩
    · rw [← h.fa]; exact hc.1
    · rw [← h.pf]; exact hc.2
    · exact hcr.1
  · rw [goodEnd_f hc]
    refine ⟨h, ⟨rn.why, .inl ⟨rn, fun k => hc ⟨by rw [h.fa]; exact k.1, by rw [h.pf]; exact k.2⟩⟩⟩, fun k => ?_, Int.le_refl _, rfl⟩
    have := rn.st; omega
theorem Rel.inAck (h : Rel c g S p P) (rn : Run c g) {s : Seg} {k a : Int} (v : SegV s p P g.iss k a) (hp : 0 ≤ p.x ∧ p.x ≤ P.length) (hpf : p.f = true → p.x = P.length) (ha : a ≤ g.X) (ha2 : g.U - a ≤ 100) (hk : -100 ≤ k - g.r ∧ k - g.r ≤ 100) :
    ∃ g', g.Le g' ∧ (g'.U = g.U ∨ g'.U = a) ∧ g'.X + (c.inAck s).1.x.credit ≤ g.X + c.x.credit ∧ Rel (c.inAck s).1 g' S p P ∧ Well (c.inAck s).1 g' ∧ Outs (c.inAck s).2 g' S p.iss ∧ (c.inAck s).2.length ≤ 3 ∧ ((c.inAck s).1.x.st = 4 → (c.inAck s).1.x.quiet = 10) ∧ (c.inAck s).1.x.weClosed = c.x.weClosed ∧ g'.rd = g.rd := by
  obtain ⟨g1, a1, a2, a3, a4, a5, a6, a7, a8, a9, a10, a11, a12⟩ := h.acked rn v.ack ha ha2
  rw [inAck_yes a7]
  generalize hq : (c.acked s).2 = q at *
  -- the data
  have data : ∃ g2, g1.Le g2 ∧ g2.x = g1.x ∧ g2.f = g1.f ∧ g2.u = g1.u ∧ g2.fa = g1.fa ∧ Rel (q.inData s).1 g2 S p P ∧ Run (q.inData s).1 g2 ∧ Outs (q.inData s).2 g2 S p.iss ∧ (q.inData s).2.length ≤ 1 ∧ (q.inData s).1.x.credit = q.x.credit ∧ (q.inData s).1.x.weClosed = q.x.weClosed ∧ g2.rd = g1.rd := by
    unfold Conn.inData
    by_cases hd : 0 < s.data.length ∨ ¬ s.flags / 4 % 2 * 4 = 0
    · rw [if_pos hd]
      obtain ⟨g2, b1, b2', b3, b4, b5, b6, b7, b8, b9, b10, b11, b12⟩ := a8.take (by rw [a1.iss]; exact v) hp hpf (by rw [a4]; exact hk)
      have hst : (q.take s).x.st = 3 := b7.trans a9.st
      refine ⟨g2, b1, b2', b3, b4, b5, b6, ⟨hst, b8.trans a9.why, fun ht => ?_, fun ht => by rw [b9]; exact a9.fl (by unfold Gh.U Gh.X at *; rw [b2', b3, b4, b5] at ht; exact ht)⟩, ?_, by simp, b10, b11, b12⟩
      · have := a9.tm (by rw [← b9]; exact ht)
        unfold Gh.U Gh.X at *; rw [b2', b3, b4, b5]; exact this
      · refine Outs.one (k := g2.X) (b6.ackV (by omega) (by omega)) ?_ (Int.le_refl _)
        obtain ⟨u1, u2, u3, u4⟩ := b6.ux
        have := b2_b g2.f; unfold Gh.X; omega
    · rw [if_neg hd]
      exact ⟨g1, Gh.Le.refl g1, rfl, rfl, rfl, rfl, a8, a9, Outs.nil _ _ _, by simp, rfl, rfl, rfl⟩
  obtain ⟨g2, b1, b2', b3, b4, b5, b6, b7, b8, b9, b10, b11, b12⟩ := data
  obtain ⟨g3, c1, c2, c3, c4, c5, c6, c7⟩ := b6.pump b7
  obtain ⟨d1, d2, d3, d4, d5⟩ := c3.goodEnd c4
  have hX : g2.X = g.X := by unfold Gh.X; rw [b2', b3, a2, a3]
  have hU : g3.U = g1.U := by rw [c1.U]; unfold Gh.U; rw [b4, b5]
  refine ⟨g3, (a1.trans b1).trans c1.le, by rw [hU]; exact a6, by dsimp only; omega, d1, d2, (b8.mono c1 b6.ux.2.1).app c5, by rw [List.length_append]; omega, d3, ?_, c1.rd.trans (b12.trans a12)⟩
  exact d5.trans (c7.trans (b11.trans a11))
end
end Go.Proofs.Qxb6500351aGreat
