/- What the calls of a connection block keep. No Go in sight. -/
import Derived.Test.Qxb6500351aGreatMd5
set_option linter.unusedVariables false
set_option linter.unusedSimpArgs false
namespace Go.Proofs.Qxb6500351aGreat
open Go.Eng
theorem all_cons {P : Seg → Prop} {a : Seg} {l : List Seg} (h : P a) (k : ∀ g, g ∈ l → P g) : ∀ g, g ∈ a :: l → P g := fun g hg => by
  rcases List.mem_cons.1 hg with rfl | h1
  · exact h
  · exact k g h1
theorem Conn.ok_openA {c : Conn} (h : c.Ok) (iss : Int) : (c.openA iss).1.Ok ∧ ∀ g, g ∈ (c.openA iss).2 → g.Ok := by
  have h1 := Conn.ok_begin h (st := 1) (iss := iss) (by omega)
  exact ⟨h1, all_one (Conn.ok_again h1)⟩
theorem Conn.ok_openP {c : Conn} (h : c.Ok) (iss : Int) (s : Seg) : (c.openP iss s).1.Ok ∧ ∀ g, g ∈ (c.openP iss s).2 → g.Ok := by
  have h1 := Conn.ok_begin h (st := 2) (iss := iss) (by omega)
  have hw := window_b s.wnd
  have h2 : (c.openP iss s).1.Ok := by
    obtain ⟨a1, a2, a3, a4, a5, a6, a7⟩ := h1.x
    exact ⟨⟨a1, a2, hw, a4, a5, a6, a7⟩, h1.s, Rb.ok_reset h1.r _⟩
  exact ⟨h2, all_one (Conn.ok_again h2)⟩
theorem Conn.ok_tick {c : Conn} (h : c.Ok) : c.tick.1.Ok ∧ ∀ g, g ∈ c.tick.2 → g.Ok := by
  obtain ⟨a1, a2, a3, a4, a5, a6, a7⟩ := h.x
  have hq : ∀ q : Int, 0 ≤ q ∧ q ≤ 10 → (⟨{ c.x with quiet := q }, c.s, c.r⟩ : Conn).Ok := fun q hq => ⟨⟨a1, a2, a3, a4, a5, a6, hq⟩, h.s, h.r⟩
  unfold Conn.tick
  split
  · exact ⟨h, all_nil⟩
  · split
    · have h1 : (if 0 < c.x.quiet then (⟨{ c.x with quiet := c.x.quiet - 1 }, c.s, c.r⟩ : Conn) else c).Ok := by
        split
        · exact hq _ (by omega)
        · exact h
      dsimp only
      generalize (if 0 < c.x.quiet then (⟨{ c.x with quiet := c.x.quiet - 1 }, c.s, c.r⟩ : Conn) else c) = c1 at h1
      split
      · exact ⟨Conn.ok_wipe h1, all_nil⟩
      · exact ⟨h1, all_nil⟩
    · split
      · have h2 : (⟨{ c.x with credit := 12, timer := c.x.timer - 1 }, c.s, c.r⟩ : Conn).Ok := ⟨⟨a1, a2, a3, by dsimp only; omega, a5, by dsimp only; omega, a7⟩, h.s, h.r⟩
        dsimp only
        split
        · split
          · exact ⟨Conn.ok_fail h2 _, all_nil⟩
          · rename_i hr
            have h3 : (⟨({ c.x with credit := 12, timer := c.x.timer - 1, retries := c.x.retries + 1 } : Cs).arm, c.s, c.r⟩ : Conn).Ok := ⟨Cs.ok_arm ⟨a1, a2, a3, by dsimp only; omega, by dsimp only; omega, by dsimp only; omega, a7⟩, h.s, h.r⟩
            have h4 := Conn.ok_pump h3
            exact ⟨h4.1, all_cons (Conn.ok_again h3) h4.2⟩
        · exact Conn.ok_pump h2
      · exact Conn.ok_pump (c := ⟨{ c.x with credit := 12 }, c.s, c.r⟩) ⟨⟨a1, a2, a3, a4, a5, by dsimp only; omega, a7⟩, h.s, h.r⟩
end Go.Proofs.Qxb6500351aGreat
namespace Go.Proofs.Qxb6500351aGreat
/-- all that can be seen in numbers -/
def Conn.info (c : Conn) : Ci := ⟨c.x.st, c.x.why, c.x.weClosed, c.x.finSent, c.x.finAcked, c.x.peerFin, c.sndUna, c.sndNxt, c.rcvNxt, c.s.count, c.s.unsent, c.r.avail, c.r.held, c.x.peerWnd, c.x.timer, c.x.retries, c.x.credit, c.x.quiet⟩
def Conn.zero : Conn := ⟨Cs.zero, Sb.zero, Rb.zero⟩
theorem Conn.ok_zero : Conn.zero.Ok := ⟨Cs.ok_zero, Sb.ok_zero, Rb.ok_zero⟩
end Go.Proofs.Qxb6500351aGreat
