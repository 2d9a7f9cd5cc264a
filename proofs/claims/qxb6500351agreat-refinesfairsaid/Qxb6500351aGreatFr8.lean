/- FAIR WEATHER, part 8: the clock ticks. No Go in sight. -/
import Derived.Test.Qxb6500351aGreatFr7
set_option linter.unusedVariables false
set_option linter.unusedSimpArgs false
namespace Go.Proofs.Qxb6500351aGreat
open Go.Eng
/-- an ended one ticks -/
theorem Conn.tick_4 {c : Conn} (st : c.x.st = 4) (q0 : 0 ≤ c.x.quiet) : c.tick.2 = [] ∧ (c.tick.1.x.st = 0 ∨ (c.tick.1.x.st = 4 ∧ c.tick.1.x.why = c.x.why ∧ c.tick.1.x.quiet = max (c.x.quiet - 1) 0)) ∧ (c.tick.1.x.st = 0 → c.x.quiet ≤ 1) := by
  unfold Conn.tick
  rw [if_neg (by omega), if_pos st]
  dsimp only
  by_cases h : 0 < c.x.quiet
  · rw [if_pos h]
    dsimp only
    split
    · rename_i k
      exact ⟨rfl, .inl rfl, fun _ => by have := k.1; omega⟩
    · exact ⟨rfl, .inr ⟨st, rfl, by show c.x.quiet - 1 = _; omega⟩, fun k => by have k : c.x.st = 0 := k; omega⟩
  · rw [if_neg h]
    split
    · exact ⟨rfl, .inl rfl, fun _ => by omega⟩
    · exact ⟨rfl, .inr ⟨st, rfl, by show c.x.quiet = _; omega⟩, fun k => by omega⟩
/-- one that has not ended ticks, and does not give up -/
structure TickE (c d : Conn) : Prop where
  st : d.x.st = c.x.st
  why : d.x.why = c.x.why
  pf : d.x.peerFin = c.x.peerFin
  t0 : c.x.timer = 0 → d.x.retries = c.x.retries
  t1 : c.x.timer = 1 → d.x.retries = c.x.retries + 1 ∧ d.x.timer = 2 * 2 ^ (c.x.retries + 1).toNat
  t2 : 2 ≤ c.x.timer → d.x.retries = c.x.retries ∧ d.x.timer = c.x.timer - 1
theorem Conn.tick_live {c : Conn} (ok : c.Ok) (st : c.x.st = 1 ∨ c.x.st = 2 ∨ c.x.st = 3) (nt : ¬ (c.x.timer = 1 ∧ c.x.retries = 3)) : TickE c c.tick.1 ∧ (∀ s, s ∈ c.tick.2 → s.flags / 8 = 0) ∧ (c.x.st ≠ 3 → 2 ≤ c.x.timer → c.tick.2 = []) := by
  obtain ⟨o1, o2, o3, o4, o5, o6, o7⟩ := ok.x
  unfold Conn.tick
  rw [if_neg (by omega), if_neg (by omega)]
  by_cases ht : 0 < c.x.timer
  · rw [if_pos ht]
    dsimp only
    by_cases h1 : c.x.timer - 1 = 0
    · rw [if_pos h1, if_neg (fun k => nt ⟨by omega, k⟩)]
      dsimp only
      have ar := Cs.arm_same ({ c.x with credit := 12, timer := c.x.timer - 1, retries := c.x.retries + 1 } : Cs)
      have atm : ({ c.x with credit := 12, timer := c.x.timer - 1, retries := c.x.retries + 1 } : Cs).arm.timer = 2 * 2 ^ (c.x.retries + 1).toNat := by
        unfold Cs.arm; rw [if_pos h1]
      have pos : (0 : Int) < 2 * 2 ^ (c.x.retries + 1).toNat := by
        have : (0 : Int) < 2 ^ (c.x.retries + 1).toNat := Int.pow_pos (by decide)
        omega
      have ok3 : (⟨({ c.x with credit := 12, timer := c.x.timer - 1, retries := c.x.retries + 1 } : Cs).arm, c.s, c.r⟩ : Conn).Ok := by
        refine ⟨Cs.ok_arm ?_, ok.s, ok.r⟩
        constructor <;> dsimp only <;> first | omega | (have := fun k => nt ⟨by omega, k⟩; omega)
      have P := Conn.pump_k (⟨({ c.x with credit := 12, timer := c.x.timer - 1, retries := c.x.retries + 1 } : Cs).arm, c.s, c.r⟩ : Conn)
      have S := Conn.pump_st (⟨({ c.x with credit := 12, timer := c.x.timer - 1, retries := c.x.retries + 1 } : Cs).arm, c.s, c.r⟩ : Conn)
      have F := Conn.pump_pf ok3
      refine ⟨⟨S.trans ar.1, P.why.trans ar.2.1, F.trans ar.2.2.2.2.2.1, fun k => by omega, fun _ => ⟨P.ret.trans ar.2.2.2.2.2.2.2.2, (P.tm (by show 0 < _; rw [atm]; exact pos)).trans atm⟩, fun k => by omega⟩, fun s hs => ?_, fun _ k => by omega⟩
      rcases List.mem_cons.1 hs with k | k
      · rw [k]; exact Conn.again_fl _
      · exact Conn.pump_fl _ s k
    · rw [if_neg h1]
      have ok2 : (⟨{ c.x with credit := 12, timer := c.x.timer - 1 }, c.s, c.r⟩ : Conn).Ok := by
        refine ⟨?_, ok.s, ok.r⟩
        constructor <;> dsimp only <;> omega
      have P := Conn.pump_k (⟨{ c.x with credit := 12, timer := c.x.timer - 1 }, c.s, c.r⟩ : Conn)
      have S := Conn.pump_st (⟨{ c.x with credit := 12, timer := c.x.timer - 1 }, c.s, c.r⟩ : Conn)
      refine ⟨⟨S, P.why, Conn.pump_pf ok2, fun k => by omega, fun k => by omega, fun _ => ⟨P.ret, P.tm (by show 0 < c.x.timer - 1; omega)⟩⟩, Conn.pump_fl _, fun k _ => ?_⟩
      unfold Conn.pump
      rw [if_neg k]
  · rw [if_neg ht]
    have ok2 : (⟨{ c.x with credit := 12 }, c.s, c.r⟩ : Conn).Ok := by
      refine ⟨?_, ok.s, ok.r⟩
      constructor <;> dsimp only <;> omega
    have P := Conn.pump_k (⟨{ c.x with credit := 12 }, c.s, c.r⟩ : Conn)
    have S := Conn.pump_st (⟨{ c.x with credit := 12 }, c.s, c.r⟩ : Conn)
    exact ⟨⟨S, P.why, Conn.pump_pf ok2, fun _ => P.ret, fun k => by omega, fun k => by omega⟩, Conn.pump_fl _, fun _ k => by omega⟩
end Go.Proofs.Qxb6500351aGreat
