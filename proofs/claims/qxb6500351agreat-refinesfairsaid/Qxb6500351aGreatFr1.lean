/- FAIR WEATHER, part 1: what one connection does. No Go in sight. -/
import Derived.Test.Qxb6500351aGreatLv8
set_option linter.unusedVariables false
set_option linter.unusedSimpArgs false
namespace Go.Proofs.Qxb6500351aGreat
open Go.Eng
/-- an acknowledgement and no more -/
def SBare (s : Seg) : Prop := s.flags = 2 ∧ s.data = []
theorem Conn.ack_bare (c : Conn) : SBare c.ack := ⟨rfl, rfl⟩
theorem Conn.again_fl (c : Conn) : c.again.flags / 8 = 0 := by
  unfold Conn.again
  repeat' split
  all_goals rfl
theorem Conn.pumpF_fl : ∀ (f : Nat) (c : Conn) (s : Seg), s ∈ (Conn.pumpF f c).2 → s.flags / 8 = 0
  | 0, c, s, h => by simp [Conn.pumpF] at h
  | f + 1, c, s, h => by
    unfold Conn.pumpF at h
    split at h
    · simp at h
    · rcases List.mem_cons.1 h with q | q
      · rw [q]; rfl
      · exact Conn.pumpF_fl f c.pumpC s q
theorem Conn.pump_fl (c : Conn) : ∀ s, s ∈ c.pump.2 → s.flags / 8 = 0 := fun s h => by
  unfold Conn.pump at h
  split at h
  · rcases List.mem_append.1 h with q | q
    · exact Conn.pumpF_fl _ _ s q
    · unfold Conn.pumpE at q
      split at q
      · rw [List.mem_singleton.1 q]; rfl
      · simp at q
  · simp at h
/-- what a segment that is no refusal leaves alone -/
structure InK (c d : Conn) : Prop where
  why : d.x.why = c.x.why
  ret : d.x.retries = 0 ∨ (d.x.retries = c.x.retries ∧ (0 < c.x.timer → d.x.timer = c.x.timer))
theorem InK.refl (c : Conn) : InK c c := ⟨rfl, .inr ⟨rfl, fun _ => rfl⟩⟩
theorem InK.trans {c d e : Conn} (a : InK c d) (b : InK d e) : InK c e := by
  refine ⟨b.why.trans a.why, ?_⟩
  rcases b.ret with q | ⟨q1, q2⟩
  · exact .inl q
  · rcases a.ret with p | ⟨p1, p2⟩
    · exact .inl (q1.trans p)
    · exact .inr ⟨q1.trans p1, fun h => (q2 (by rw [p2 h]; exact h)).trans (p2 h)⟩
theorem PumpK.inK {c d : Conn} (a : PumpK c d) : InK c d := ⟨a.why, .inr ⟨a.ret, a.tm⟩⟩
theorem Conn.acked_k (c : Conn) (s : Seg) : InK c (c.acked s).2 := by
  simp only [Conn.acked]
  repeat' split
  · exact InK.refl c
  · exact InK.refl c
  · exact ⟨rfl, .inl rfl⟩
  · unfold Conn.ackd
    split
    · have ar := Cs.arm_same (c.ack0 (seqDiff s.ack c.sndUna) s.wnd).x
      have aw : (c.ack0 (seqDiff s.ack c.sndUna) s.wnd).x.arm.why = (c.ack0 (seqDiff s.ack c.sndUna) s.wnd).x.why := by unfold Cs.arm; split <;> rfl
      exact ⟨aw, .inl ar.2.2.2.2.2.2.2.2⟩
    · exact ⟨rfl, .inl rfl⟩
theorem Conn.inData_k (c : Conn) (s : Seg) : InK c (c.inData s).1 := by
  unfold Conn.inData
  split
  · unfold Conn.take
    repeat' split
    all_goals exact ⟨rfl, .inr ⟨rfl, fun _ => rfl⟩⟩
  · exact InK.refl c
theorem Conn.goodEnd_k (c : Conn) : InK c c.goodEnd := by
  unfold Conn.goodEnd
  split
  · exact ⟨rfl, .inl rfl⟩
  · exact InK.refl c
theorem Conn.inAck_k (c : Conn) (s : Seg) : InK c (c.inAck s).1 := by
  unfold Conn.inAck
  split
  · exact c.acked_k s
  · exact (((c.acked_k s).trans ((c.acked s).2.inData_k s)).trans (Conn.pump_k _).inK).trans (Conn.goodEnd_k _)
theorem Conn.inAck_fl (c : Conn) (s : Seg) : ∀ t, t ∈ (c.inAck s).2 → t.flags / 8 = 0 := fun t h => by
  unfold Conn.inAck at h
  split at h
  · rw [List.mem_singleton.1 h]; rfl
  · rcases List.mem_append.1 h with q | q
    · unfold Conn.inData at q
      split at q
      · rw [List.mem_singleton.1 q]; rfl
      · simp at q
    · exact Conn.pump_fl _ t q
theorem Conn.opened_k (c : Conn) : InK c c.opened := ⟨rfl, .inl rfl⟩
/-- a segment that is no refusal fails nobody -/
theorem Conn.input_k (c : Conn) {s : Seg} (hf : s.flags / 8 * 8 = 0) : InK c (c.input s).1 := by
  unfold Conn.input
  split
  · exact InK.refl c
  split
  · unfold Conn.inSynSent
    split
    · exact InK.refl c
    · split
      · exact InK.refl c
      · exact ⟨rfl, .inl rfl⟩
  split
  · unfold Conn.inSync
    rw [if_neg (fun k => k hf)]
    split
    · exact InK.refl c
    split
    · exact InK.refl c
    split
    · split
      · exact InK.refl c
      · exact c.opened_k.trans (Conn.inAck_k _ _)
    · exact Conn.inAck_k _ _
  · exact InK.refl c
/-- and is answered by none -/
theorem Conn.input_fl (c : Conn) {s : Seg} (hf : s.flags / 8 * 8 = 0) (h1 : c.x.st = 1 → s.ack = seqAdd c.x.iss 1) (h2 : c.x.st = 2 → s.flags % 2 = 0 → s.ack = seqAdd c.x.iss 1) : ∀ t, t ∈ (c.input s).2 → t.flags / 8 = 0 := fun t h => by
  unfold Conn.input at h
  split at h
  · unfold Conn.inQuiet at h
    dsimp only at h
    split at h
    · rw [List.mem_singleton.1 h]; rfl
    · simp at h
  split at h
  · rename_i q1
    unfold Conn.inSynSent at h
    rw [if_neg (fun k => k.2 (h1 q1)), if_neg (fun k => k hf)] at h
    split at h
    · simp at h
    · rw [List.mem_singleton.1 h]; rfl
  split at h
  · unfold Conn.inSync at h
    rw [if_neg (fun k => k hf)] at h
    split at h
    · rw [List.mem_singleton.1 h]
      split
      · exact c.again_fl
      · rfl
    rename_i q2
    split at h
    · simp at h
    split at h
    · rename_i q3
      rw [if_neg (fun k => k (h2 q3 (Decidable.not_not.1 q2)))] at h
      exact Conn.inAck_fl _ _ t h
    · exact Conn.inAck_fl _ _ t h
  · simp at h
/-- an ended one -/
theorem Conn.input_4 {c : Conn} (h : c.x.st = 4) (s : Seg) : (c.input s).1 = c ∧ (∀ t, t ∈ (c.input s).2 → SBare t) ∧ ((SBare s ∨ s.flags = 3 ∧ s.data = []) → (c.input s).2 = []) := by
  unfold Conn.input
  rw [if_pos h]
  refine ⟨rfl, fun t ht => ?_, fun hb => ?_⟩
  · have ht : t ∈ c.inQuiet s := ht
    unfold Conn.inQuiet at ht
    split at ht
    · rw [List.mem_singleton.1 ht]; exact c.ack_bare
    · simp at ht
  · show c.inQuiet s = []
    unfold Conn.inQuiet
    rw [if_neg]
    rintro ⟨_, _, q⟩
    rcases hb with ⟨b1, b2⟩ | ⟨b1, b2⟩
    · rw [b1, b2] at q; simp at q
    · rw [b1, b2] at q; simp at q
theorem Conn.goodEnd_rcv (c : Conn) : c.goodEnd.rcvNxt = c.rcvNxt := by
  unfold Conn.goodEnd Conn.rcvNxt
  split <;> rfl
/-- data and FINs are acknowledged -/
theorem Conn.inAck_ack {c : Conn} (ok : c.Ok) {s : Seg} (so : s.Ok) (hd : 0 < s.data.length ∨ ¬ s.flags / 4 % 2 * 4 = 0) : ∃ t, t ∈ (c.inAck s).2 ∧ SBare t ∧ t.ack = (c.inAck s).1.rcvNxt := by
  have hok : (c.acked s).2.Ok := Conn.ok_acked ok s
  unfold Conn.inAck
  split
  · exact ⟨_, List.mem_singleton_self _, Conn.ack_bare _, rfl⟩
  · have e : (c.acked s).2.inData s = ((c.acked s).2.take s, [((c.acked s).2.take s).ack]) := by unfold Conn.inData; rw [if_pos hd]
    dsimp only
    rw [e]
    refine ⟨((c.acked s).2.take s).ack, by simp, Conn.ack_bare _, ?_⟩
    rw [Conn.goodEnd_rcv, Conn.pump_rcv (Conn.ok_take hok so)]
    rfl
theorem Conn.pump_pf {c : Conn} (h : c.Ok) : c.pump.1.x.peerFin = c.x.peerFin := by
  unfold Conn.pump
  split
  · dsimp only
    have e1 : c.pumpL.1.x.peerFin = c.x.peerFin := by
      rw [Conn.pumpL_eq h]
      split
      · rfl
      · exact (Cs.arm_same ({ c.x with credit := c.x.credit - c.pumpN } : Cs)).2.2.2.2.2.1
    unfold Conn.pumpE
    split
    · exact (Cs.arm_same _).2.2.2.2.2.1.trans e1
    · exact e1
  · rfl
theorem Conn.acked_pf (c : Conn) (s : Seg) : (c.acked s).2.x.peerFin = c.x.peerFin := by
  simp only [Conn.acked]
  repeat' split
  · rfl
  · rfl
  · rfl
  · unfold Conn.ackd
    split
    · exact (Cs.arm_same (c.ack0 (seqDiff s.ack c.sndUna) s.wnd).x).2.2.2.2.2.1
    · rfl
/-- the peer's FIN is acknowledged as it comes -/
theorem Conn.inAck_fin {c : Conn} (ok : c.Ok) {s : Seg} (so : s.Ok) (h0 : c.x.peerFin = false) (h1 : (c.inAck s).1.x.peerFin = true) : ∃ t, t ∈ (c.inAck s).2 ∧ SBare t ∧ t.ack = (c.inAck s).1.rcvNxt := by
  by_cases hd : 0 < s.data.length ∨ ¬ s.flags / 4 % 2 * 4 = 0
  · exact Conn.inAck_ack ok so hd
  · exfalso
    have hok : (c.acked s).2.Ok := Conn.ok_acked ok s
    unfold Conn.inAck at h1
    split at h1
    · rw [show (c.acked s).2.x.peerFin = _ from c.acked_pf s, h0] at h1; cases h1
    · have e : (c.acked s).2.inData s = ((c.acked s).2, []) := by unfold Conn.inData; rw [if_neg hd]
      dsimp only at h1
      rw [e] at h1
      have e2 : ∀ d : Conn, d.goodEnd.x.peerFin = d.x.peerFin := fun d => by unfold Conn.goodEnd; split <;> rfl
      rw [e2, Conn.pump_pf hok, c.acked_pf s, h0] at h1; cases h1
section
variable {c : Conn} {g : Gh} {S : List Int} {p : Gh} {P : List Int}
/-- an acknowledgement that is not old resets the retransmissions -/
theorem Rel.rtIn (h : Rel c g S p P) (rn : Run c g) {s : Seg} (so : s.Ok) {a : Int} (hs : s.ack = (g.iss + 1 + a) % 256) (h1 : a ≤ g.X) (h2 : g.U ≤ a) : (c.inAck s).1.x.retries = 0 := by
  have hst := rn.st
  have hfl := h.flying (by omega) (by omega)
  obtain ⟨b1, b2', b3⟩ := h.UX
  have e : seqDiff s.ack c.sndUna = a - g.U := by rw [hs, h.sndUna]; unfold seqDiff; obtain ⟨_, _, _, _⟩ := h.ux; omega
  have hlo : ¬ c.flying < seqDiff s.ack c.sndUna := by rw [e]; omega
  have key : (c.acked s).1 = true ∧ (c.acked s).2.x.retries = 0 := by
    by_cases c2 : a - g.U = 0
    · rw [acked_eq hlo (by rw [e]; omega) (by rw [e]; exact c2)]
      exact ⟨rfl, rfl⟩
    · rw [acked_gt hlo (by rw [e]; omega) (by rw [e]; exact c2)]
      refine ⟨rfl, ?_⟩
      show (c.ackd _ s.wnd).x.retries = 0
      unfold Conn.ackd
      split
      · exact (Cs.arm_same (c.ack0 (seqDiff s.ack c.sndUna) s.wnd).x).2.2.2.2.2.2.2.2
      · rfl
  rw [inAck_yes key.1]
  dsimp only
  have k := (((c.acked s).2.inData_k s).trans (Conn.pump_k _).inK).trans (Conn.goodEnd_k ((c.acked s).2.inData s).1.pump.1)
  rcases k.ret with q | ⟨q, _⟩
  · exact q
  · rw [q, key.2]
end
end Go.Proofs.Qxb6500351aGreat
