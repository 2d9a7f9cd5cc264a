/- THE WORK, part 4: what one connection does in time. No Go in sight. -/
import Derived.Test.Qxb6500351aGreatLv3
import Derived.Test.Qxb6500351aGreatPl23
set_option linter.unusedVariables false
set_option linter.unusedSimpArgs false
namespace Go.Proofs.Qxb6500351aGreat
open Go.Eng
/-- the timer is young -/
structure Fresh (c : Conn) : Prop where
  t : c.x.timer ≤ 2
  r : c.x.retries = 0
/-- a step that leaves the acknowledged number and a running timer alone -/
structure TmK (c d : Conn) : Prop where
  una : d.sndUna = c.sndUna
  tm : 0 < c.x.timer → d.x.timer = c.x.timer
  fr : Fresh c → Fresh d
  ret : c.x.retries = 0 → d.x.retries = 0
theorem TmK.refl (c : Conn) : TmK c c := ⟨rfl, fun _ => rfl, id, id⟩
theorem TmK.trans {c d e : Conn} (a : TmK c d) (b : TmK d e) : TmK c e := ⟨b.una.trans a.una, fun h => (b.tm (by rw [a.tm h]; exact h)).trans (a.tm h), fun h => b.fr (a.fr h), fun h => b.ret (a.ret h)⟩
theorem Cs.arm_tm (x : Cs) : (0 < x.timer → x.arm.timer = x.timer) ∧ (x.timer ≤ 2 → x.retries = 0 → x.arm.timer ≤ 2) := by
  unfold Cs.arm
  split
  · refine ⟨fun h => by omega, fun _ h => ?_⟩
    show 2 * (2 : Int) ^ x.retries.toNat ≤ 2
    rw [h]; decide
  · exact ⟨fun _ => rfl, fun h _ => h⟩
/-- the same acknowledged number, and 'arm' -/
theorem TmK.armed {c d : Conn} {x : Cs} (hx : d.x = x.arm) (h1 : x.timer = c.x.timer) (h2 : x.retries = c.x.retries) (hu : d.sndUna = c.sndUna) : TmK c d := by
  have ar := Cs.arm_same x
  have at_ := Cs.arm_tm x
  refine ⟨hu, fun h => ?_, fun h => ⟨?_, ?_⟩, fun h => ?_⟩
  · rw [hx, at_.1 (by omega), h1]
  · rw [hx]; exact at_.2 (by have := h.t; omega) (by have := h.r; omega)
  · rw [hx, ar.2.2.2.2.2.2.2.2, h2]; exact h.r
  · rw [hx, ar.2.2.2.2.2.2.2.2, h2]; exact h
theorem Conn.pumpC_tm (c : Conn) : TmK c c.pumpC := by
  refine TmK.armed (x := { c.x with credit := c.x.credit - c.pumpN }) rfl rfl rfl ?_
  have ar := Cs.arm_same ({ c.x with credit := c.x.credit - c.pumpN } : Cs)
  unfold Conn.sndUna
  show (if ({ c.x with credit := c.x.credit - c.pumpN } : Cs).arm.finAcked = true then _ else _) = _
  rw [ar.2.2.2.2.1]; rfl
theorem Conn.pumpL_tm {c : Conn} (h : c.Ok) : TmK c c.pumpL.1 := by
  rw [Conn.pumpL_eq h]
  split
  · exact TmK.refl c
  · exact c.pumpC_tm
theorem Conn.pumpE_tm (c : Conn) : TmK c c.pumpE.1 := by
  unfold Conn.pumpE
  split
  · refine TmK.armed (x := { c.x with finSent := true, credit := c.x.credit - 1 }) rfl rfl rfl ?_
    have ar := Cs.arm_same ({ c.x with finSent := true, credit := c.x.credit - 1 } : Cs)
    unfold Conn.sndUna
    show (if ({ c.x with finSent := true, credit := c.x.credit - 1 } : Cs).arm.finAcked = true then _ else _) = _
    rw [ar.2.2.2.2.1]
  · exact TmK.refl c
theorem Conn.pump_tm {c : Conn} (h : c.Ok) : TmK c c.pump.1 := by
  unfold Conn.pump
  split
  · exact (Conn.pumpL_tm h).trans (Conn.pumpE_tm _)
  · exact TmK.refl c
theorem Conn.take_x (c : Conn) (s : Seg) : (c.take s).s = c.s ∧ (c.take s).x.timer = c.x.timer ∧ (c.take s).x.retries = c.x.retries ∧ (c.take s).x.finAcked = c.x.finAcked ∧ (c.take s).x.st = c.x.st := by
  unfold Conn.take
  repeat' split
  all_goals exact ⟨rfl, rfl, rfl, rfl, rfl⟩
theorem Conn.inData_tm (c : Conn) (s : Seg) : TmK c (c.inData s).1 := by
  unfold Conn.inData
  split
  · obtain ⟨t1, t2, t3, t4, _⟩ := c.take_x s
    refine ⟨?_, fun _ => t2, fun h => ⟨by show (c.take s).x.timer ≤ 2; rw [t2]; exact h.t, by show (c.take s).x.retries = 0; rw [t3]; exact h.r⟩, fun h => t3.trans h⟩
    show (c.take s).sndUna = c.sndUna
    unfold Conn.sndUna
    rw [t4, t1]
  · exact TmK.refl c
theorem Conn.goodEnd_tm {c : Conn} (h : c.goodEnd.x.st = 3) : c.goodEnd = c := by
  unfold Conn.goodEnd at h ⊢
  split
  · rename_i q; rw [if_pos q] at h; exact absurd (show (4 : Int) = 3 from h) (by decide)
  · rfl
section
variable {c : Conn} {g : Gh} {S : List Int} {p : Gh} {P : List Int}
/-- AN ACKNOWLEDGEMENT at an open connection that stays open -/
theorem Rel.tmIn (h : Rel c g S p P) (rn : Run c g) {s : Seg} (so : s.Ok) {a : Int} (hs : s.ack = (g.iss + 1 + a) % 256) (h1 : a ≤ g.X) (h2 : g.U - a ≤ 100) (h3 : (c.inAck s).1.x.st = 3) :
    (c.inAck s).1.sndUna = (g.iss + 1 + max g.U a) % 256 ∧ (g.U < a → Fresh (c.inAck s).1) ∧ (Fresh c → Fresh (c.inAck s).1) ∧ (a ≤ g.U → 0 < c.x.timer → (c.inAck s).1.x.timer = c.x.timer) := by
  have hst := rn.st
  have hfl := h.flying (by omega) (by omega)
  obtain ⟨b1, b2', b3⟩ := h.UX
  have e : seqDiff s.ack c.sndUna = a - g.U := by rw [hs, h.sndUna]; unfold seqDiff; obtain ⟨_, _, _, _⟩ := h.ux; omega
  have hlo : ¬ c.flying < seqDiff s.ack c.sndUna := by rw [e]; omega
  have key : (c.acked s).1 = true ∧ (c.acked s).2.sndUna = (g.iss + 1 + max g.U a) % 256 ∧ (g.U < a → Fresh (c.acked s).2) ∧ (Fresh c → Fresh (c.acked s).2) ∧ (a ≤ g.U → 0 < c.x.timer → (c.acked s).2.x.timer = c.x.timer) := by
    by_cases c1 : a - g.U < 0
    · rw [acked_lo hlo (by rw [e]; exact c1)]
      refine ⟨rfl, ?_, fun k => by omega, id, fun _ _ => rfl⟩
      rw [h.sndUna, show max g.U a = g.U by omega]
    · by_cases c2 : a - g.U = 0
      · rw [acked_eq hlo (by rw [e]; exact c1) (by rw [e]; exact c2)]
        refine ⟨rfl, ?_, fun k => by omega, fun k => ⟨k.t, rfl⟩, fun _ _ => rfl⟩
        show c.sndUna = _
        rw [h.sndUna, show max g.U a = g.U by omega]
      · rw [acked_gt hlo (by rw [e]; exact c1) (by rw [e]; exact c2), e]
        obtain ⟨g', k1, k2, k3, k4, k5, k6, k7, k8, k9⟩ := h.ackd rn (d := a - g.U) (w := s.wnd) (by omega) (by omega)
        have fr : Fresh (c.ackd (a - g.U) s.wnd) := by
          unfold Conn.ackd
          split
          · have at_ := Cs.arm_tm (c.ack0 (a - g.U) s.wnd).x
            have ar := Cs.arm_same (c.ack0 (a - g.U) s.wnd).x
            exact ⟨at_.2 (show (0 : Int) ≤ 2 by decide) rfl, ar.2.2.2.2.2.2.2.2⟩
          · exact ⟨show (0 : Int) ≤ 2 by decide, rfl⟩
        refine ⟨rfl, ?_, fun _ => fr, fun _ => fr, fun k => by omega⟩
        show (c.ackd (a - g.U) s.wnd).sndUna = _
        rw [k7.sndUna, k1.iss, k6, show max g.U a = g.U + (a - g.U) by omega]
  obtain ⟨y1, y2, y3, y4, y5⟩ := key
  have hok : (c.acked s).2.Ok := Conn.ok_acked h.ok s
  have hok2 : ((c.acked s).2.inData s).1.Ok := by
    unfold Conn.inData
    split
    · exact Conn.ok_take hok so
    · exact hok
  rw [inAck_yes y1] at h3 ⊢
  dsimp only at h3 ⊢
  rw [Conn.goodEnd_tm h3]
  have T := ((c.acked s).2.inData_tm s).trans (Conn.pump_tm hok2)
  exact ⟨T.una.trans y2, fun k => T.fr (y3 k), fun k => T.fr (y4 k), fun k1 k2 => (T.tm (by rw [y5 k1 k2]; exact k2)).trans (y5 k1 k2)⟩
/-- a segment covers the number n -/
def Cov (s : Seg) (k n : Int) : Prop := k ≤ n ∧ (n < k + s.data.length ∨ (s.flags = 6 ∧ n = k + s.data.length))
/-- DATA at an open connection: it is acknowledged behind the number that it covers -/
theorem Rel.resp (h : Rel c g S p P) (rn : Run c g) {s : Seg} {k a n : Int} (v : SegV s p P g.iss k a) (hp : 0 ≤ p.x ∧ p.x ≤ P.length) (hpf : p.f = true → p.x = P.length) (ha : a ≤ g.X) (ha2 : g.U - a ≤ 100) (hk : -100 ≤ k - g.r ∧ k - g.r ≤ 100) (cv : Cov s k n) (hn : n ≤ g.R) (hw : n < k + s.data.length → n < g.rd + 16) :
    ∃ σ, σ ∈ (c.inAck s).2 ∧ σ.flags = 2 ∧ ∃ R, σ.ack = (p.iss + 1 + R) % 256 ∧ n < R ∧ R ≤ p.X := by
  obtain ⟨g1, a1, a2, a3, a4, a5, a6, a7, a8, a9, a10, a11, a12⟩ := h.acked rn v.ack ha ha2
  rw [inAck_yes a7]
  generalize hq : (c.acked s).2 = q at *
  have hd : 0 < s.data.length ∨ ¬ s.flags / 4 % 2 * 4 = 0 := by
    rcases cv.2 with q | ⟨q, _⟩
    · have := cv.1; left; omega
    · right; rw [q]; decide
  have e2 : (q.inData s).2 = [(q.take s).ack] := by unfold Conn.inData; rw [if_pos hd]
  obtain ⟨g2, b1, b2', b3, b4, b5, b6, b7, b8, b9, b10, b11, b12⟩ := a8.take (by rw [a1.iss]; exact v) hp hpf (by rw [a4]; exact hk)
  refine ⟨(q.take s).ack, ?_, rfl, g2.R, ?_, ?_, ?_⟩
  · rw [e2]; exact List.mem_append_left _ (List.mem_cons_self ..)
  · have : (q.take s).ack.ack = (q.take s).rcvNxt := by unfold Conn.ack Conn.mk'; dsimp only; rw [if_neg (by decide)]
    rw [this, b6.rcvNxt]
  · -- it goes beyond n
    have hR1 : g1.R = g.R := by unfold Gh.R; rw [a4, a5]
    have hle := b1.R
    by_cases hgt : n < g.R
    · omega
    have hnR : n = g.R := by omega
    -- the stream ahead of n
    have hkP : k + s.data.length ≤ P.length := by
      by_cases hl : s.data.length = 0
      · rcases v.flags with q | ⟨_, _, q⟩
        · exfalso
          rcases cv.2 with q2 | ⟨q2, _⟩
          · have := cv.1; omega
          · rw [q] at q2; exact absurd q2 (by decide)
        · omega
      · have := (v.data (s.data.length - 1) (by omega)).1
        omega
    have hnP : n ≤ P.length := by rcases cv.2 with q | ⟨_, q⟩ <;> omega
    have pf0 : g.pf = false := by
      cases hpf' : g.pf with
      | false => rfl
      | true =>
        obtain ⟨_, k2⟩ := h.pf1 hpf'
        unfold Gh.R at hnR
        rw [hpf', b2_t] at hnR
        omega
    have hr : g.R = g.r := by unfold Gh.R; rw [pf0, b2_f]; omega
    have hpf1 : q.x.peerFin = false := by rw [a8.pf, a5]; exact pf0
    have hd0 : seqDiff s.seq q.r.nxt = k - g.r := by
      rw [v.seq, a8.r.nxt, a4]; unfold seqDiff; omega
    have ins := Rb.ins_ge a8.ok.r (seq := s.seq) (p := s.data) (by rw [hd0]; have := cv.1; omega)
    rw [hd0] at ins
    have q1 := a8.rdq
    have q2 := b6.rdq
    have av1 := a8.ok.r.av1
    have ht : (q.take s).r = (q.r.ins s.seq s.data).1 := by
      unfold Conn.take
      rw [if_neg (by rw [hpf1]; decide)]
      repeat' split
      all_goals rfl
    rw [ht] at q2
    have hrd2 : g2.rd = g.rd := b12.trans a12
    have hrd1 : g1.rd = g.rd := a12
    have hR2 : g2.r ≤ g2.R := by have := b2_b g2.pf; unfold Gh.R; omega
    rcases cv.2 with hc | ⟨hc, hc2⟩
    · have hwn := hw hc
      have hav : q.r.avail = g.r - g.rd := by omega
      omega
    · -- the FIN
      by_cases hadv : g.r < g2.r
      · omega
      · have hrr : g2.r = g.r := by have := b1.r; omega
        have hpf2 : g2.pf = true := by
          rw [← b6.pf]
          have hl := v.ok.len
          unfold Conn.take
          rw [if_neg (by rw [hpf1]; decide), if_neg (by rw [hc]; omega)]
          have hnx : seqAdd s.seq s.data.length = (q.r.ins s.seq s.data).1.nxt := by
            have := b6.r.nxt
            rw [ht] at this
            rw [this, v.seq, hrr]
            unfold seqAdd; omega
          rw [if_pos hnx]
        have : g2.R = g2.r + 1 := by unfold Gh.R; rw [hpf2, b2_t]
        omega
  · have hrn := b6.r.rn
    have hlen : (P.take p.x.toNat).length = p.x.toNat := by rw [List.length_take]; omega
    rw [hlen] at hrn
    cases hpf2 : g2.pf with
    | false =>
      have : g2.R = g2.r := by unfold Gh.R; rw [hpf2, b2_f]; omega
      have := b2_b p.f
      unfold Gh.X; omega
    | true =>
      obtain ⟨k1, k2⟩ := b6.pf1 hpf2
      have h3 := hpf k1
      have : g2.R = g2.r + 1 := by unfold Gh.R; rw [hpf2, b2_t]
      have : p.X = p.x + 1 := by unfold Gh.X; rw [k1, b2_t]
      omega
/-- what goes out of an open end to be acknowledged -/
structure TokS (s : Seg) (g : Gh) (S : List Int) (p : Gh) : Prop where
  kind : (s.flags = 2 ∧ 0 < s.data.length) ∨ (s.flags = 6 ∧ s.data = [] ∧ g.U = S.length)
  seq : s.seq = (g.iss + 1 + g.U) % 256
  ack : s.ack = (p.iss + 1 + g.R) % 256
theorem Rel.againT (h : Rel c g S p P) (st : c.x.st = 3) (hf : g.U < g.X) : TokS c.again g S p := by
  have v := h.again st hf
  have hnfa : g.fa = false := by
    cases hfa : g.fa with
    | false => rfl
    | true =>
      obtain ⟨k1, k2⟩ := h.fa1 hfa
      have := h.f1 k1
      unfold Gh.U Gh.X at hf
      rw [hfa, k1] at hf; omega
  have hU : g.U = g.u := by unfold Gh.U; rw [hnfa, b2_f]; omega
  refine ⟨?_, by rw [hU]; exact v.seq, v.ack⟩
  unfold Conn.again
  rw [if_neg (by omega), if_neg (by omega)]
  split
  · rename_i hn
    left
    refine ⟨rfl, ?_⟩
    show 0 < (c.s.span 0 (c.s.againN 12)).length
    rw [Sb.span_len]; omega
  · rename_i hn
    right
    refine ⟨rfl, rfl, ?_⟩
    have hs0 := h.ok.s.sent0
    have hz : c.s.sent = 0 := by unfold Sb.againN least at hn; omega
    have hff : g.f = true := by
      cases hff : g.f with
      | true => rfl
      | false =>
        have := h.s.snt
        unfold Gh.X at hf; rw [hff, b2_f] at hf; omega
    have := h.f1 hff
    have := h.s.snt
    omega
/-- with nothing under way and a fresh credit something goes out -/
theorem Rel.pumpT (h : Rel c g S p P) (st : c.x.st = 3) (cr : c.x.credit = 12) (hx : g.U = g.X) (hu : g.U < S.length + b2 c.x.weClosed) : ∃ σ, σ ∈ c.pump.2 ∧ TokS σ g S p := by
  obtain ⟨u1, u2, u3, u4⟩ := h.ux
  have hnfa : g.fa = false := by
    cases hfa : g.fa with
    | false => rfl
    | true =>
      obtain ⟨k1, k2⟩ := h.fa1 hfa
      have := b2_b c.x.weClosed
      unfold Gh.U at hu
      rw [hfa, b2_t] at hu; omega
  have hU : g.U = g.u := by unfold Gh.U; rw [hnfa, b2_f]; omega
  have hf : g.f = false := by
    cases hf : g.f with
    | false => rfl
    | true => unfold Gh.X at hx; rw [hf, b2_t] at hx; omega
  have hX : g.X = g.x := by unfold Gh.X; rw [hf, b2_f]; omega
  have hsn : c.s.sent = 0 := by have := h.s.snt; omega
  have hct := h.s.cnt
  have hwn := h.ok.x.wnd
  have hnx : c.rcvNxt = (p.iss + 1 + g.R) % 256 := h.rcvNxt
  have hsq : (c.s.una + c.s.sent) % 256 = (g.iss + 1 + g.U) % 256 := by have := h.s.una; rw [hsn, this, hU]; omega
  unfold Conn.pump
  rw [if_pos st]
  by_cases hc : c.s.count = 0
  · -- the FIN
    have hN : c.pumpN ≤ 0 := by unfold Conn.pumpN; omega
    rw [Conn.pumpL_stop hN]
    have hcl : c.x.weClosed = true := by
      cases hcl : c.x.weClosed with
      | true => rfl
      | false => rw [hcl, b2_f] at hu; omega
    have e : c.pumpE.2 = [c.mk' 6 c.s.nxt []] := by
      unfold Conn.pumpE
      rw [if_pos ⟨hcl, by rw [h.f]; exact hf, by omega, by omega⟩]
    refine ⟨c.mk' 6 c.s.nxt [], by dsimp only; rw [e]; simp, .inr ⟨rfl, rfl, by omega⟩, hsq, ?_⟩
    show (if (6 : Int) = 1 then 0 else c.rcvNxt) = _
    rw [if_neg (by decide)]; exact hnx
  · have h0 := h.ok.s.sent0
    have h1 := h.ok.s.sentc
    have hN : ¬ c.pumpN ≤ 0 := by
      unfold Conn.pumpN
      split <;> omega
    rw [Conn.pumpL_step hN]
    have hb := Conn.nextN_pump h.ok hN
    refine ⟨c.pumpS, by simp, .inl ⟨rfl, ?_⟩, hsq, ?_⟩
    · show 0 < (c.s.span c.s.sent (c.s.nextN c.pumpN)).length
      rw [Sb.span_len, hb]; omega
    · show (if (2 : Int) = 1 then 0 else Conn.rcvNxt ⟨c.x, c.s.next c.pumpN, c.r⟩) = _
      rw [if_neg (by decide)]
      exact hnx
/-- A TICK of an open connection with work left -/
theorem Rel.tickT (h : Rel c g S p P) (rn : Run c g) (hu : g.U < S.length + b2 c.x.weClosed) :
    c.tick.1.x.st = 4 ∨ (c.tick.1.x.st = 3 ∧ c.tick.1.sndUna = c.sndUna ∧ 2 ≤ c.x.timer ∧ c.tick.1.x.timer = c.x.timer - 1 ∧ (c.x.retries = 0 → c.tick.1.x.retries = 0)) ∨ (c.tick.1.x.st = 3 ∧ c.tick.1.sndUna = c.sndUna ∧ c.x.timer ≤ 1 ∧ ∃ σ, σ ∈ c.tick.2 ∧ TokS σ g S p) := by
  obtain ⟨o1, o2, o3, o4, o5, o6, o7⟩ := h.ok.x
  have hst := rn.st
  unfold Conn.tick
  rw [if_neg (by omega), if_neg (by omega)]
  have pst : ∀ q : Conn, q.x.st = 3 → q.pump.1.x.st = 3 := fun q hq => by
    unfold Conn.pump; rw [if_pos hq]
    dsimp only
    have e1 : q.pumpL.1.x.st = 3 := by
      unfold Conn.pumpL
      generalize q.x.credit.toNat = f
      induction f generalizing q with
      | zero => exact hq
      | succ f ih =>
        simp only [Conn.pumpF]
        split
        · exact hq
        · exact ih _ ((Conn.pumpC_st q).trans hq)
    unfold Conn.pumpE
    split
    · exact (Cs.arm_same _).1.trans e1
    · exact e1
  by_cases ht : 0 < c.x.timer
  · rw [if_pos ht]
    dsimp only
    by_cases ht0 : c.x.timer - 1 = 0
    · rw [if_pos ht0]
      by_cases hr : c.x.retries = 3
      · left; rw [if_pos hr]; rfl
      · right; right
        rw [if_neg hr]
        generalize hx : ({ c.x with credit := 12, timer := c.x.timer - 1, retries := c.x.retries + 1 } : Cs) = x
        have hxo : x.Ok := by rw [← hx]; exact ⟨o1, o2, o3, by dsimp only; omega, by dsimp only; omega, by dsimp only; omega, o7⟩
        have ar := Cs.arm_same x
        have r1 : Rel ⟨x.arm, c.s, c.r⟩ g S p P := h.ctl (Cs.ok_arm hxo) (by rw [ar.2.2.2.1, ← hx]) (by rw [ar.2.2.2.2.1, ← hx]) (by rw [ar.2.2.2.2.2.1, ← hx]) (fun k => by rw [ar.2.2.1, ← hx]; exact k)
        have s3 : (⟨x.arm, c.s, c.r⟩ : Conn).x.st = 3 := by show x.arm.st = 3; rw [ar.1, ← hx]; exact hst
        refine ⟨pst _ s3, ?_, by omega, _, List.mem_cons_self .., r1.againT s3 (rn.tm ht)⟩
        rw [(Conn.pump_tm r1.ok).una]
        show (if x.arm.finAcked = true then _ else _) = _
        rw [ar.2.2.2.2.1, ← hx]; rfl
    · right; left
      rw [if_neg ht0]
      have r1 : Rel ⟨{ c.x with credit := 12, timer := c.x.timer - 1 }, c.s, c.r⟩ g S p P := h.ctl ⟨o1, o2, o3, by dsimp only; omega, o5, by dsimp only; omega, o7⟩ rfl rfl rfl id
      have T := Conn.pump_tm r1.ok
      exact ⟨pst _ hst, T.una, by omega, T.tm (by dsimp only; omega), T.ret⟩
  · right; right
    rw [if_neg ht]
    have r1 : Rel ⟨{ c.x with credit := 12 }, c.s, c.r⟩ g S p P := h.ctl ⟨o1, o2, o3, o4, o5, by dsimp only; omega, o7⟩ rfl rfl rfl id
    have T := Conn.pump_tm r1.ok
    have hUX : g.U = g.X := by
      have h1 := h.UX.1
      by_cases hlt : g.U < g.X
      · have := rn.fl hlt; omega
      · omega
    exact ⟨pst _ hst, T.una, by omega, r1.pumpT hst rfl hUX hu⟩
end
end Go.Proofs.Qxb6500351aGreat
