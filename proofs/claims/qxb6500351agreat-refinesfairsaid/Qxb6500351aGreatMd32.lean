/- From the plain law of Work to what the walks of Settle ask. -/
import Derived.Test.Qxb6500351aGreatMd29
import Derived.Test.Qxb6500351aGreatLv11
set_option linter.unusedVariables false
set_option linter.unusedSimpArgs false
namespace Go.Proofs.Qxb6500351aGreat
open Go.Eng
/-- a frame is passed over only where no host gets it -/
structure DelP (x : Wrld) (i : Int) (Z : Wrld → Prop) : Prop where
  rest : (∀ raw (d : Nat), wTake x.wr i = some raw → d < 3 → raw.getD 0 0 = (d : Int) + 1 → 0 < raw.length → False) → Z { x with wr := wRest x.wr i }
  inp : ∀ raw (d : Nat), wTake x.wr i = some raw → d < 3 → raw.getD 0 0 = (d : Int) + 1 → (∀ s g, (x.H d).DispOk s g) ∧ ((x.H d).inputF raw).length ≤ 24 ∧ ∃ z, Look (x.input i d raw) z ∧ LkOk (x.input i d raw) ∧ Z z
/-- a settle of r rounds, the last c of them calm -/
def JB (Ts : Int) (r : Nat) (c : Int) (k : Nat) (x : Wrld) : Prop := ∃ w L, Law w L x (k : Int) ∧ Bd False Ts (r : Int) c w L x
/-- within the round behind: n frames to come -/
def JM (Ts : Int) (r : Nat) (c sp : Int) (lo : Nat → Int) (n k : Nat) (x : Wrld) : Prop := ∃ w L, Law w L x (k : Int) ∧ Mi False Ts (r : Int) c sp lo n w L x
section
variable {Ts c sp : Int} {r n k : Nat} {lo : Nat → Int} {x z : Wrld}
theorem JB.law (h : JB Ts r c k x) : LawK x k := by obtain ⟨w, L, A, _⟩ := h; exact ⟨w, L, A⟩
theorem JM.law (h : JM Ts r c sp lo n k x) : LawK x k := by obtain ⟨w, L, A, _⟩ := h; exact ⟨w, L, A⟩
theorem JB.start (h : LawK x k) : ∃ Ts, JB Ts 0 0 k x := by
  obtain ⟨w, L, A⟩ := h
  exact ⟨w.now, w, L, A, Bd.start A⟩
theorem JB.mid (h : JB Ts r c k x) : JM Ts r c x.spilt x.lost x.wr.length k x := by
  obtain ⟨w, L, A, B⟩ := h
  exact ⟨w, L, A, B.mid⟩
theorem JM.del (h : JM Ts r c sp lo n k x) (h0 : 0 < (n : Int)) (hk : k ≤ 10900000000) : DelP x 0 (fun z => JM Ts r c sp lo (n - 1) (k + 1) z) := by
  have L0 := h.law
  have hn := L0.nok (by omega)
  have hl := L0.nlen (by omega)
  obtain ⟨w, L, A, M⟩ := h
  obtain ⟨m, rfl⟩ : ∃ m, n = m + 1 := ⟨n - 1, by omega⟩
  refine ⟨fun hno => ⟨w, L, (A.rest 0).mono (by omega), Mi.rest A M hno⟩, fun raw d ht d3 h1 => ?_⟩
  obtain ⟨w', L3, z, J, M'⟩ := Mi.inp A (by omega) M ht d3 h1
  obtain ⟨z', p1, p2, p3⟩ := L0.next hk J.look J.law (y := x.input 0 d raw) hn (by show x.N.length ≤ _; omega) rfl
  exact ⟨J.ok.1, J.ok.2, z, J.look, p2, w', L3, J.law, M'⟩
theorem JM.tick (h : JM Ts r c sp lo n k x) (h0 : ¬ 0 < (n : Int)) (hk : k ≤ 10900000000) : ∃ z, TickOk x (tickX x) z ∧ JB Ts (r + 1) 0 (k + 1) z ∧ (z.spilt = sp → (∀ h, h < 3 → z.lost h = lo h) → JB Ts (r + 1) (c + 1) (k + 1) z) := by
  have L0 := h.law
  have hn := L0.nok (by omega)
  have hl := L0.nlen (by omega)
  have S := L0.szs (by omega)
  have B := L0.hb (by omega)
  obtain ⟨w, L, A, M⟩ := h
  have hn0 : n = 0 := by omega
  subst hn0
  obtain ⟨f, w', L3, z, l1, l2, b1, b2, _⟩ := Mi.tick A M Lend.no
  obtain ⟨z', p1, p2, p3⟩ := L0.next hk l1 l2 (y := tickX x 3) hn (by show x.N.length ≤ _; omega) rfl
  have cast : ((r + 1 : Nat) : Int) = (r : Int) + 1 := by omega
  refine ⟨z, ⟨rfl, fun d d3 => rfl, fun d d3 => ?_, fun d _ => tickX_wl x S.wl d, fun d d3 => ?_, fun d _ => tickX_same x d, l1, p2⟩, ⟨w', L3, l2, by rw [cast]; exact b1⟩, fun h1 h2 => ⟨w', L3, l2, by rw [cast]; exact b2 h1 h2⟩⟩
  · rw [tickX_H x d d (Nat.le_refl _)]
    obtain ⟨f1, f2, f3⟩ := f d d3
    have b := B.b d d3
    have o := (B.ok d d3).1
    have ra := A.inv.ra d d3
    have e := A.H d d3
    refine ⟨o, by omega, b.2.1, ⟨o.addr, ?_, o.lost, ?_, o.pa, o.c, o.t⟩, f1, f3⟩
    · have := o.clock; show 0 ≤ (x.H d).clock + 1 ∧ (x.H d).clock + 1 ≤ _; omega
    · show (x.H d).p.tick.Ok
      rw [e] at o ⊢
      exact RA.ok_tick o.p ra
  · have := tickX_sp x S.spilt (fun d d3 => (f d d3).2.2) d d3; omega
theorem JB.settled (h : JB Ts r c k x) (hr : r = 120) (hc : 90 ≤ c) : nSettled x.N := by
  obtain ⟨w, L, A, B⟩ := h
  subst hr
  exact Bd.settled A B hc
end
end Go.Proofs.Qxb6500351aGreat
