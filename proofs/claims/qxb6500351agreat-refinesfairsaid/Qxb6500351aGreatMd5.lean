/- THE PLAIN FUNCTIONS of a connection block, part 2: what comes in, what is called. No Go in sight. -/
import Derived.Test.Qxb6500351aGreatMd4
set_option linter.unusedVariables false
set_option linter.unusedSimpArgs false
namespace Go.Proofs.Qxb6500351aGreat
open Go.Eng

theorem cases16 {f : Int} (h : 0 ≤ f ∧ f < 16) : f = 0 ∨ f = 1 ∨ f = 2 ∨ f = 3 ∨ f = 4 ∨ f = 5 ∨ f = 6 ∨ f = 7 ∨ f = 8 ∨ f = 9 ∨ f = 10 ∨ f = 11 ∨ f = 12 ∨ f = 13 ∨ f = 14 ∨ f = 15 := by omega
theorem fl1 {f : Int} (h : 0 ≤ f ∧ f < 16) : bAnd .i64 f 1 = f % 2 := by
  rcases cases16 h with h | h | h | h | h | h | h | h | h | h | h | h | h | h | h | h <;> subst h <;> decide
theorem fl2 {f : Int} (h : 0 ≤ f ∧ f < 16) : bAnd .i64 f 2 = f / 2 % 2 * 2 := by
  rcases cases16 h with h | h | h | h | h | h | h | h | h | h | h | h | h | h | h | h <;> subst h <;> decide
theorem fl4 {f : Int} (h : 0 ≤ f ∧ f < 16) : bAnd .i64 f 4 = f / 4 % 2 * 4 := by
  rcases cases16 h with h | h | h | h | h | h | h | h | h | h | h | h | h | h | h | h <;> subst h <;> decide
theorem fl8 {f : Int} (h : 0 ≤ f ∧ f < 16) : bAnd .i64 f 8 = f / 8 * 8 := by
  rcases cases16 h with h | h | h | h | h | h | h | h | h | h | h | h | h | h | h | h <;> subst h <;> decide
theorem fl15 {f : Int} (h : 0 ≤ f ∧ f < 16) : bAnd .i64 f 15 = f := by
  rcases cases16 h with h | h | h | h | h | h | h | h | h | h | h | h | h | h | h | h <;> subst h <;> decide
theorem seqAdd_id {a : Int} (h : 0 ≤ a ∧ a < 256) : seqAdd a 0 = a := by unfold seqAdd; omega
def Seg.syn (s : Seg) : Prop := s.flags % 2 = 1
def Seg.ackF (s : Seg) : Prop := s.flags / 2 % 2 = 1
def Seg.fin (s : Seg) : Prop := s.flags / 4 % 2 = 1
def Seg.rst (s : Seg) : Prop := s.flags / 8 = 1

theorem Conn.pumpC_st (c : Conn) : c.pumpC.x.st = c.x.st := by
  simp only [Conn.pumpC, Cs.arm]; split <;> rfl
theorem Conn.pump_eq {c q : Conn} {l : List Seg} (h3 : c.x.st = 3) (h4 : c.pumpL.1 = q.pumpL.1) (h5 : c.pumpL.2 = l ++ q.pumpL.2) (hs : q.pumpN ≤ 0) : c.pump = (q.pumpE.1, l ++ q.pumpE.2) := by
  have e := Conn.pumpL_stop hs
  rw [e] at h4 h5
  unfold Conn.pump
  rw [if_pos h3, h4, h5]
  simp
theorem Conn.pumpF_len : ∀ (f : Nat) (c : Conn), (Conn.pumpF f c).2.length ≤ f
  | 0, c => Nat.le_refl _
  | f + 1, c => by
    simp only [Conn.pumpF]
    split
    · simp
    · have := Conn.pumpF_len f c.pumpC
      simp only [List.length_cons]; omega
theorem Conn.pump_len {c : Conn} (h : c.Ok) : c.pump.2.length ≤ 13 := by
  have h1 := Conn.pumpF_len c.x.credit.toNat c
  have h2 := h.x.credit
  have h3 : c.pumpL.1.pumpE.2.length ≤ 1 := by unfold Conn.pumpE; split <;> simp
  unfold Conn.pump
  split
  · simp only [List.length_append, Conn.pumpL] at *
    omega
  · simp
theorem Conn.pump_no {c : Conn} (h : ¬ c.x.st = 3) : c.pump = (c, []) := by unfold Conn.pump; rw [if_neg h]
def Conn.begin (c : Conn) (st iss : Int) : Conn := ⟨{ Cs.zero with st := st, iss := seqAdd iss 0, credit := 11, timer := 2 }, (c.s.reset 0).reset (seqAdd iss 0), c.r.reset 0⟩
theorem Conn.ok_begin {c : Conn} (h : c.Ok) {st iss : Int} (hs : 0 ≤ st ∧ st ≤ 4) : (c.begin st iss).Ok := by
  have := seqAdd_b iss 0
  refine ⟨?_, Sb.ok_reset (Sb.ok_reset h.s 0) _, Rb.ok_reset h.r 0⟩
  constructor <;> simp only [Conn.begin, Cs.zero] <;> omega
def Conn.opened (c : Conn) : Conn := ⟨{ c.x with st := 3, timer := 0, retries := 0 }, c.s.reset (seqAdd c.x.iss 1), c.r⟩
theorem Conn.ok_opened {c : Conn} (h : c.Ok) : c.opened.Ok := by
  obtain ⟨h1, h2, h3, h4, h5, h6, h7⟩ := h.x
  refine ⟨?_, Sb.ok_reset h.s _, h.r⟩
  constructor <;> simp only [Conn.opened] <;> omega
/-- what an acknowledgement ahead does -/
def Conn.ack0 (c : Conn) (d w : Int) : Conn := ⟨{ c.x with peerWnd := window w, retries := 0, finAcked := (if c.s.sent < d then true else c.x.finAcked), timer := 0 }, c.s.ack (seqAdd c.s.una (if c.s.sent < d then c.s.sent else d)), c.r⟩
def Conn.ackd (c : Conn) (d w : Int) : Conn := if 0 < (c.ack0 d w).flying then ⟨(c.ack0 d w).x.arm, (c.ack0 d w).s, c.r⟩ else c.ack0 d w
def Conn.acked (c : Conn) (s : Seg) : Bool × Conn :=
  let d := seqDiff s.ack c.sndUna
  if c.flying < d then (false, c) else if d < 0 then (true, c) else
  if d = 0 then (true, ⟨{ c.x with peerWnd := window s.wnd, retries := 0 }, c.s, c.r⟩) else (true, c.ackd d s.wnd)
theorem acked_hi {c : Conn} {g : Seg} (h : c.flying < seqDiff g.ack c.sndUna) : c.acked g = (false, c) := by simp only [Conn.acked]; rw [if_pos h]
theorem acked_lo {c : Conn} {g : Seg} (h : ¬ c.flying < seqDiff g.ack c.sndUna) (h2 : seqDiff g.ack c.sndUna < 0) : c.acked g = (true, c) := by simp only [Conn.acked]; rw [if_neg h, if_pos h2]
theorem acked_eq {c : Conn} {g : Seg} (h : ¬ c.flying < seqDiff g.ack c.sndUna) (h2 : ¬ seqDiff g.ack c.sndUna < 0) (h3 : seqDiff g.ack c.sndUna = 0) : c.acked g = (true, ⟨{ c.x with peerWnd := window g.wnd, retries := 0 }, c.s, c.r⟩) := by
  simp only [Conn.acked]; rw [if_neg h, if_neg h2, if_pos h3]
theorem acked_gt {c : Conn} {g : Seg} (h : ¬ c.flying < seqDiff g.ack c.sndUna) (h2 : ¬ seqDiff g.ack c.sndUna < 0) (h3 : ¬ seqDiff g.ack c.sndUna = 0) : c.acked g = (true, c.ackd (seqDiff g.ack c.sndUna) g.wnd) := by
  simp only [Conn.acked]; rw [if_neg h, if_neg h2, if_neg h3]
theorem ack0_fin {c : Conn} {d w : Int} (h : c.s.sent < d) : c.ack0 d w = ⟨{ c.x with peerWnd := window w, retries := 0, finAcked := true, timer := 0 }, c.s.ack (seqAdd c.s.una c.s.sent), c.r⟩ := by
  simp only [Conn.ack0]; rw [if_pos h, if_pos h]
theorem ack0_dat {c : Conn} {d w : Int} (h : ¬ c.s.sent < d) : c.ack0 d w = ⟨{ c.x with peerWnd := window w, retries := 0, timer := 0 }, c.s.ack (seqAdd c.s.una d), c.r⟩ := by
  simp only [Conn.ack0]; rw [if_neg h, if_neg h]
theorem ackd_t {c : Conn} {d w : Int} (h : 0 < (c.ack0 d w).flying) : c.ackd d w = ⟨(c.ack0 d w).x.arm, (c.ack0 d w).s, c.r⟩ := by unfold Conn.ackd; rw [if_pos h]
theorem ackd_f {c : Conn} {d w : Int} (h : ¬ 0 < (c.ack0 d w).flying) : c.ackd d w = c.ack0 d w := by unfold Conn.ackd; rw [if_neg h]
theorem window_b (w : Int) : 0 ≤ window w ∧ window w ≤ 255 := by unfold window; repeat' split
                                                                 all_goals omega
theorem Conn.ok_ack0 {c : Conn} (h : c.Ok) (d w : Int) : (c.ack0 d w).Ok := by
  obtain ⟨h1, h2, h3, h4, h5, h6, h7⟩ := h.x
  have hw := window_b w
  refine ⟨?_, Sb.ok_ack h.s _, h.r⟩
  constructor <;> simp only [Conn.ack0] <;> omega
theorem Conn.ok_ackd {c : Conn} (h : c.Ok) (d w : Int) : (c.ackd d w).Ok := by
  have h0 := Conn.ok_ack0 h d w
  unfold Conn.ackd
  split
  · exact ⟨Cs.ok_arm h0.x, h0.s, h.r⟩
  · exact h0
theorem Conn.ok_acked {c : Conn} (h : c.Ok) (s : Seg) : (c.acked s).2.Ok := by
  have hw := window_b s.wnd
  unfold Conn.acked
  dsimp only
  repeat' split
  · exact h
  · exact h
  · obtain ⟨h1, h2, h3, h4, h5, h6, h7⟩ := h.x
    refine ⟨?_, h.s, h.r⟩
    constructor <;> dsimp only <;> omega
  · exact Conn.ok_ackd h _ _
def Conn.take (c : Conn) (s : Seg) : Conn :=
  if c.x.peerFin = true then c else
  if s.flags / 4 % 2 * 4 = 0 ∨ 16 < s.data.length then ⟨c.x, (c.s), (c.r.ins s.seq s.data).1⟩ else
  if seqAdd s.seq s.data.length = (c.r.ins s.seq s.data).1.nxt then ⟨{ c.x with peerFin := true }, c.s, (c.r.ins s.seq s.data).1⟩ else ⟨c.x, c.s, (c.r.ins s.seq s.data).1⟩
theorem Conn.ok_take {c : Conn} (h : c.Ok) {s : Seg} (hs : s.Ok) : (c.take s).Ok := by
  have hi := Rb.ok_ins h.r s.seq hs.bytes
  unfold Conn.take
  repeat' split
  · exact h
  · exact ⟨h.x, h.s, hi⟩
  · obtain ⟨h1, h2, h3, h4, h5, h6, h7⟩ := h.x
    exact ⟨⟨h1, h2, h3, h4, h5, h6, h7⟩, h.s, hi⟩
  · exact ⟨h.x, h.s, hi⟩
/-! ### Input -/
def Conn.inQuiet (c : Conn) (s : Seg) : List Seg := if c.x.why = 0 ∧ s.flags / 8 * 8 = 0 ∧ (¬ s.flags / 4 % 2 * 4 = 0 ∨ 0 < s.data.length) then [c.ack] else []
def Conn.inSynSent (c : Conn) (s : Seg) : Conn × List Seg :=
  if ¬ s.flags / 2 % 2 * 2 = 0 ∧ ¬ s.ack = seqAdd c.x.iss 1 then (if ¬ s.flags / 8 * 8 = 0 then (c, []) else (c, [rstS s.ack])) else
  if ¬ s.flags / 8 * 8 = 0 then (if ¬ s.flags / 2 % 2 * 2 = 0 then (c.fail 18, []) else (c, [])) else
  if s.flags % 2 = 0 ∨ s.flags / 2 % 2 * 2 = 0 then (c, []) else
  let c1 : Conn := ⟨{ c.opened.x with peerWnd := window s.wnd }, c.opened.s, c.r.reset (seqAdd s.seq 1)⟩
  (c1, [c1.ack])
/-- data and FIN, then what may go -/
def Conn.inData (c : Conn) (s : Seg) : Conn × List Seg := if 0 < s.data.length ∨ ¬ s.flags / 4 % 2 * 4 = 0 then ((c.take s), [(c.take s).ack]) else (c, [])
def Conn.goodEnd (c : Conn) : Conn := if c.x.finAcked = true ∧ c.x.peerFin = true then ⟨{ c.x with st := 4, quiet := 10, timer := 0, retries := 0, credit := 0, peerWnd := 0 }, c.s, c.r⟩ else c
def Conn.inAck (c : Conn) (s : Seg) : Conn × List Seg :=
  if (c.acked s).1 = false then ((c.acked s).2, [(c.acked s).2.ack]) else
  let q := (c.acked s).2.inData s
  (q.1.pump.1.goodEnd, q.2 ++ q.1.pump.2)
def Conn.inSync (c : Conn) (s : Seg) : Conn × List Seg :=
  if ¬ s.flags / 8 * 8 = 0 then (if 0 ≤ seqDiff s.seq c.rcvNxt ∧ seqDiff s.seq c.rcvNxt ≤ 17 then (c.fail 17, []) else (c, [])) else
  if ¬ s.flags % 2 = 0 then (c, [if c.x.st = 2 then c.again else c.ack]) else
  if s.flags / 2 % 2 * 2 = 0 then (c, []) else
  if c.x.st = 2 then (if ¬ s.ack = seqAdd c.x.iss 1 then (c, [rstS s.ack]) else c.opened.inAck s) else c.inAck s
def Conn.input (c : Conn) (s : Seg) : Conn × List Seg :=
  if c.x.st = 4 then (c, c.inQuiet s) else if c.x.st = 1 then c.inSynSent s else if c.x.st = 2 ∨ c.x.st = 3 then c.inSync s else (c, [])
theorem inSync_rst1 {c : Conn} {s : Seg} (h : ¬ s.flags / 8 * 8 = 0) (h2 : 0 ≤ seqDiff s.seq c.rcvNxt) (h3 : seqDiff s.seq c.rcvNxt ≤ 17) : c.inSync s = (c.fail 17, []) := by unfold Conn.inSync; rw [if_pos h, if_pos ⟨h2, h3⟩]
theorem inSync_rst0 {c : Conn} {s : Seg} (h : ¬ s.flags / 8 * 8 = 0) (h2 : ¬ (0 ≤ seqDiff s.seq c.rcvNxt ∧ seqDiff s.seq c.rcvNxt ≤ 17)) : c.inSync s = (c, []) := by unfold Conn.inSync; rw [if_pos h, if_neg h2]
theorem inSync_syn2 {c : Conn} {s : Seg} (h : s.flags / 8 * 8 = 0) (h2 : ¬ s.flags % 2 = 0) (h3 : c.x.st = 2) : c.inSync s = (c, [c.again]) := by unfold Conn.inSync; rw [if_neg (fun k => k h), if_pos h2, if_pos h3]
theorem inSync_syn3 {c : Conn} {s : Seg} (h : s.flags / 8 * 8 = 0) (h2 : ¬ s.flags % 2 = 0) (h3 : ¬ c.x.st = 2) : c.inSync s = (c, [c.ack]) := by unfold Conn.inSync; rw [if_neg (fun k => k h), if_pos h2, if_neg h3]
theorem inSync_noack {c : Conn} {s : Seg} (h : s.flags / 8 * 8 = 0) (h2 : s.flags % 2 = 0) (h3 : s.flags / 2 % 2 * 2 = 0) : c.inSync s = (c, []) := by unfold Conn.inSync; rw [if_neg (fun k => k h), if_neg (fun k => k h2), if_pos h3]
theorem inSync_bad {c : Conn} {s : Seg} (h : s.flags / 8 * 8 = 0) (h2 : s.flags % 2 = 0) (h3 : ¬ s.flags / 2 % 2 * 2 = 0) (h4 : c.x.st = 2) (h5 : ¬ s.ack = seqAdd c.x.iss 1) : c.inSync s = (c, [rstS s.ack]) := by
  unfold Conn.inSync; rw [if_neg (fun k => k h), if_neg (fun k => k h2), if_neg h3, if_pos h4, if_pos h5]
theorem inSync_opened {c : Conn} {s : Seg} (h : s.flags / 8 * 8 = 0) (h2 : s.flags % 2 = 0) (h3 : ¬ s.flags / 2 % 2 * 2 = 0) (h4 : c.x.st = 2) (h5 : s.ack = seqAdd c.x.iss 1) : c.inSync s = c.opened.inAck s := by
  unfold Conn.inSync; rw [if_neg (fun k => k h), if_neg (fun k => k h2), if_neg h3, if_pos h4, if_neg (fun k => k h5)]
theorem inSync_ack {c : Conn} {s : Seg} (h : s.flags / 8 * 8 = 0) (h2 : s.flags % 2 = 0) (h3 : ¬ s.flags / 2 % 2 * 2 = 0) (h4 : ¬ c.x.st = 2) : c.inSync s = c.inAck s := by
  unfold Conn.inSync; rw [if_neg (fun k => k h), if_neg (fun k => k h2), if_neg h3, if_neg h4]
theorem inAck_no {c : Conn} {s : Seg} (h : (c.acked s).1 = false) : c.inAck s = ((c.acked s).2, [(c.acked s).2.ack]) := by unfold Conn.inAck; rw [if_pos h]
theorem inAck_yes {c : Conn} {s : Seg} (h : (c.acked s).1 = true) : c.inAck s = (((c.acked s).2.inData s).1.pump.1.goodEnd, ((c.acked s).2.inData s).2 ++ ((c.acked s).2.inData s).1.pump.2) := by
  unfold Conn.inAck; rw [if_neg (by rw [h]; decide)]
theorem inData_t {c : Conn} {s : Seg} (h : 0 < s.data.length ∨ ¬ s.flags / 4 % 2 * 4 = 0) : c.inData s = ((c.take s), [(c.take s).ack]) := by unfold Conn.inData; rw [if_pos h]
theorem inData_f {c : Conn} {s : Seg} (h : ¬ (0 < s.data.length ∨ ¬ s.flags / 4 % 2 * 4 = 0)) : c.inData s = (c, []) := by unfold Conn.inData; rw [if_neg h]
theorem goodEnd_t {c : Conn} (h : c.x.finAcked = true) (h2 : c.x.peerFin = true) : c.goodEnd = ⟨{ c.x with st := 4, quiet := 10, timer := 0, retries := 0, credit := 0, peerWnd := 0 }, c.s, c.r⟩ := by unfold Conn.goodEnd; rw [if_pos ⟨h, h2⟩]
theorem goodEnd_f {c : Conn} (h : ¬ (c.x.finAcked = true ∧ c.x.peerFin = true)) : c.goodEnd = c := by unfold Conn.goodEnd; rw [if_neg h]
theorem Conn.ok_goodEnd {c : Conn} (h : c.Ok) : c.goodEnd.Ok := by
  unfold Conn.goodEnd
  split
  · obtain ⟨h1, h2, h3, h4, h5, h6, h7⟩ := h.x
    refine ⟨?_, h.s, h.r⟩
    constructor <;> dsimp only <;> omega
  · exact h
theorem all_nil {P : Seg → Prop} : ∀ g, g ∈ ([] : List Seg) → P g := fun g h => by simp at h
theorem all_one {P : Seg → Prop} {a : Seg} (h : P a) : ∀ g, g ∈ [a] → P g := fun g hg => by simp at hg; subst hg; exact h
theorem Conn.ok_inData {c : Conn} (h : c.Ok) {s : Seg} (hs : s.Ok) : (c.inData s).1.Ok ∧ ∀ g, g ∈ (c.inData s).2 → g.Ok := by
  unfold Conn.inData
  split
  · exact ⟨Conn.ok_take h hs, all_one (Conn.ok_ack (Conn.ok_take h hs))⟩
  · exact ⟨h, all_nil⟩
theorem Conn.ok_inAck {c : Conn} (h : c.Ok) {s : Seg} (hs : s.Ok) : (c.inAck s).1.Ok ∧ ∀ g, g ∈ (c.inAck s).2 → g.Ok := by
  have ha := Conn.ok_acked h s
  unfold Conn.inAck
  split
  · exact ⟨ha, all_one (Conn.ok_ack ha)⟩
  · have hq := Conn.ok_inData ha hs
    have hp := Conn.ok_pump hq.1
    refine ⟨Conn.ok_goodEnd hp.1, fun g hg => ?_⟩
    rcases List.mem_append.1 hg with h1 | h1
    · exact hq.2 g h1
    · exact hp.2 g h1
theorem Conn.ok_inSync {c : Conn} (h : c.Ok) {s : Seg} (hs : s.Ok) : (c.inSync s).1.Ok ∧ ∀ g, g ∈ (c.inSync s).2 → g.Ok := by
  unfold Conn.inSync
  repeat' split
  · exact ⟨Conn.ok_fail h _, all_nil⟩
  · exact ⟨h, all_nil⟩
  · exact ⟨h, all_one (Conn.ok_again h)⟩
  · exact ⟨h, all_one (Conn.ok_ack h)⟩
  · exact ⟨h, all_nil⟩
  · exact ⟨h, all_one (ok_rst _)⟩
  · exact Conn.ok_inAck (Conn.ok_opened h) hs
  · exact Conn.ok_inAck h hs
theorem Conn.ok_inSynSent {c : Conn} (h : c.Ok) {s : Seg} (hs : s.Ok) : (c.inSynSent s).1.Ok ∧ ∀ g, g ∈ (c.inSynSent s).2 → g.Ok := by
  have ho := Conn.ok_opened h
  have hw := window_b s.wnd
  have hc1 : (⟨{ c.opened.x with peerWnd := window s.wnd }, c.opened.s, c.r.reset (seqAdd s.seq 1)⟩ : Conn).Ok := by
    obtain ⟨h1, h2, h3, h4, h5, h6, h7⟩ := ho.x
    exact ⟨⟨h1, h2, hw, h4, h5, h6, h7⟩, ho.s, Rb.ok_reset h.r _⟩
  unfold Conn.inSynSent
  repeat' split
  · exact ⟨h, all_nil⟩
  · exact ⟨h, all_one (ok_rst _)⟩
  · exact ⟨Conn.ok_fail h _, all_nil⟩
  · exact ⟨h, all_nil⟩
  · exact ⟨h, all_nil⟩
  · exact ⟨hc1, all_one (Conn.ok_ack hc1)⟩
theorem Conn.ok_input {c : Conn} (h : c.Ok) {s : Seg} (hs : s.Ok) : (c.input s).1.Ok ∧ ∀ g, g ∈ (c.input s).2 → g.Ok := by
  unfold Conn.input
  repeat' split
  · refine ⟨h, ?_⟩
    unfold Conn.inQuiet
    split
    · exact all_one (Conn.ok_ack h)
    · exact all_nil
  · exact Conn.ok_inSynSent h hs
  · exact Conn.ok_inSync h hs
  · exact ⟨h, all_nil⟩
/-! ### the calls -/
def Conn.openA (c : Conn) (iss : Int) : Conn × List Seg := (c.begin 1 iss, [(c.begin 1 iss).again])
def Conn.openP (c : Conn) (iss : Int) (s : Seg) : Conn × List Seg :=
  let c1 : Conn := ⟨{ (c.begin 2 iss).x with peerWnd := window s.wnd }, (c.begin 2 iss).s, (c.begin 2 iss).r.reset (seqAdd s.seq 1)⟩
  (c1, [c1.again])
def Conn.tick (c : Conn) : Conn × List Seg :=
  if c.x.st = 0 then (c, []) else if c.x.st = 4 then
    let c1 : Conn := if 0 < c.x.quiet then ⟨{ c.x with quiet := c.x.quiet - 1 }, c.s, c.r⟩ else c
    if c1.x.quiet = 0 ∧ c1.r.avail = 0 then (c1.wipe, []) else (c1, [])
  else if 0 < c.x.timer then
    let c2 : Conn := ⟨{ c.x with credit := 12, timer := c.x.timer - 1 }, c.s, c.r⟩
    if c2.x.timer = 0 then (if c2.x.retries = 3 then (c2.fail 19, []) else
      let c3 : Conn := ⟨({ c2.x with retries := c2.x.retries + 1 } : Cs).arm, c.s, c.r⟩
      (c3.pump.1, c3.again :: c3.pump.2))
    else c2.pump
  else (⟨{ c.x with credit := 12 }, c.s, c.r⟩ : Conn).pump
def Cs.ended (x : Cs) : Int := if x.why = 0 then 15 else x.why
/-- how many are taken on, what goes out, the error -/
def Conn.send (c : Conn) (p : List Int) : Conn × Int × List Seg × Int :=
  if c.x.st = 0 then (c, 0, [], 13) else if c.x.st = 1 ∨ c.x.st = 2 then (c, 0, [], 14) else if c.x.st = 4 then (c, 0, [], c.x.ended) else
  if c.x.weClosed = true then (c, 0, [], 15) else if 0 < p.length ∧ c.s.count = 16 then (c, 0, [], 14) else
  let c1 : Conn := ⟨c.x, c.s.put p, c.r⟩
  (c1.pump.1, c.s.putN p, c1.pump.2, 0)
def Conn.recv (c : Conn) (mx : Int) : Conn × List Int × List Seg × Int :=
  if c.x.st = 0 then (c, [], [], 13) else if mx ≤ 0 then (c, [], [], 24) else
  if c.r.avail = 0 then (if c.x.peerFin = true then (c, [], [], 16) else if c.x.st = 4 then (c, [], [], c.x.why) else (c, [], [], 14)) else
  let c1 : Conn := ⟨c.x, c.s, c.r.read mx⟩
  (c1, c.r.first (c.r.readN mx), (if c.r.avail = 16 ∧ c.x.st = 3 then [c1.ack] else []), 0)
def Conn.close (c : Conn) : Conn × List Seg × Int :=
  if c.x.st = 0 then (c, [], 13) else if c.x.st = 4 then (c, [], c.x.ended) else if c.x.st = 1 then (c.fail 20, [], 0) else
  if c.x.weClosed = true then (c, [], 15) else
  let c1 : Conn := ⟨{ c.x with weClosed := true }, c.s, c.r⟩
  (c1.pump.1, c1.pump.2, 0)
def Conn.abort (c : Conn) : Conn × List Seg × Int :=
  if c.x.st = 0 then (c, [], 13) else if c.x.st = 4 then (if c.x.why = 0 then (⟨{ (c.fail 20).x with quiet := c.x.quiet }, (c.fail 20).s, (c.fail 20).r⟩, [], 0) else (c, [], 0)) else
  if c.x.st = 1 then (c.fail 20, [], 0) else (c.fail 20, [rstS c.sndNxt], 0)
end Go.Proofs.Qxb6500351aGreat
