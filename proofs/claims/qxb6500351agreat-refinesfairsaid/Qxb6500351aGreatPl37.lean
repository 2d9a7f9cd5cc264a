/- THE PLAIN LAW of the whole network, part 19: the world's tick; the first world. No Go in sight. -/
import Derived.Test.Qxb6500351aGreatPl36
set_option linter.unusedVariables false
set_option linter.unusedSimpArgs false
namespace Go.Proofs.Qxb6500351aGreat
open Go.Eng
structure WTick (w w1 w2 w3 w' : W) : Prop where
  t0 : HTick { w with now := w.now + 1 } w1 0
  t1 : HTick w1 w2 1
  t2 : HTick w2 w3 2
  e : w' = { w3 with tk := fun _ => w.now + 1 }
  inv : Inv w'
  syn : Syn w'
  n : w'.n = w.n
  N : w'.N = w.N
  tr : ∀ i, i < w.n → TrI w w' i
  g : ∀ i, (w.G i).Le (w'.G i) ∧ (w'.G i).rd = (w.G i).rd
theorem Inv.wtick {w : W} (I : Inv w) (sy : Syn w) : ∃ w1 w2 w3 w', WTick w w1 w2 w3 w' := by
  have I0 := I.time sy.tk
  generalize hw0 : ({ w with now := w.now + 1 } : W) = w0 at I0
  have e0 : w0.now = w.now + 1 ∧ w0.n = w.n ∧ w0.N = w.N ∧ w0.H = w.H ∧ w0.tk = w.tk := by rw [← hw0]; exact ⟨rfl, rfl, rfl, rfl, rfl⟩
  obtain ⟨en, enn, eN, eH, etk⟩ := e0
  have rows0 : ∀ i e c, w0.row i e c ↔ w.row i e c := fun i e c => host_row w w0 eN (fun j => by rw [eH]) (fun j => by rw [eH]) i e c
  obtain ⟨w1, A⟩ := I0.host_tick (h := 0) (by omega) (by rw [eH, en, sy.clk 0 (by omega)]) (fun i hi _ => by rw [etk, en]; rw [enn] at hi; rw [sy.tk i hi])
  obtain ⟨w2, B⟩ := A.go.inv.host_tick (h := 1) (by omega) (by rw [A.go.H 1 (by omega), A.go.now, eH, en, sy.clk 1 (by omega)]) (fun i hi hh => by
    rw [A.go.n] at hi; rw [A.go.N] at hh
    rw [A.tkn i hi (by rw [hh]; decide), A.go.now, etk, en]; rw [enn] at hi; rw [sy.tk i hi])
  obtain ⟨w3, C⟩ := B.go.inv.host_tick (h := 2) (by omega) (by rw [B.go.H 2 (by omega), B.go.now, A.go.H 2 (by omega), A.go.now, eH, en, sy.clk 2 (by omega)]) (fun i hi hh => by
    rw [B.go.n] at hi; rw [B.go.N] at hh
    have hi1 := hi
    rw [A.go.n] at hi; rw [A.go.N] at hh
    rw [B.tkn i hi1 (by rw [A.go.N, hh]; decide), B.go.now, A.tkn i hi (by rw [hh]; decide), A.go.now, etk, en]; rw [enn] at hi; rw [sy.tk i hi])
  have hn : w3.n = w.n := by rw [C.go.n, B.go.n, A.go.n, enn]
  have hN : w3.N = w.N := by rw [C.go.N, B.go.N, A.go.N, eN]
  have hnow : w3.now = w.now + 1 := by rw [C.go.now, B.go.now, A.go.now, en]
  have hall : ∀ i, i < w.n → (w.N i).host = ((0 : Nat) : Int) ∨ (w.N i).host = ((1 : Nat) : Int) ∨ (w.N i).host = ((2 : Nat) : Int) := fun i hi => by have := I.hostR i hi; omega
  have nA : w1.n = w.n := by rw [A.go.n, enn]
  have nB : w2.n = w.n := by rw [B.go.n, nA]
  have NA : w1.N = w.N := by rw [A.go.N, eN]
  have NB : w2.N = w.N := by rw [B.go.N, NA]
  have tr3 : ∀ i, i < w.n → TrI w w3 i := fun i hi => by
    rcases hall i hi with h | h | h
    · refine (((A.tr i (by rw [enn]; exact hi)).pre (rows0 i)).post (B.same i (by rw [nA]; exact hi) (by rw [NA, h]; decide))).post (C.same i (by rw [nB]; exact hi) (by rw [NB, h]; decide))
    · refine ((B.tr i (by rw [nA]; exact hi)).pre (fun e c => (A.same i (by rw [enn]; exact hi) (by rw [eN, h]; decide) e c).trans (rows0 i e c))).post (C.same i (by rw [nB]; exact hi) (by rw [NB, h]; decide))
    · exact (C.tr i (by rw [nB]; exact hi)).pre (fun e c => (B.same i (by rw [nA]; exact hi) (by rw [NA, h]; decide) e c).trans ((A.same i (by rw [enn]; exact hi) (by rw [eN, h]; decide) e c).trans (rows0 i e c)))
  have tk3 : ∀ i, i < w3.n → (∃ e c, w3.row i e c) → w3.tk i = w3.now := fun i hi ⟨e, c, r⟩ => by
    rw [hn] at hi
    rw [hnow]
    have back : ∀ (a b : W), TrI a b i → (∃ e c, b.row i e c) → ∃ e c, a.row i e c := fun a b t ⟨e, c, r⟩ => by
      by_cases h : ∃ e c, a.row i e c
      · exact h
      · exact absurd r (t.absent (fun e c r => h ⟨e, c, r⟩) e c)
    rcases hall i hi with h | h | h
    · have k2 := (C.same i (by rw [nB]; exact hi) (by rw [NB, h]; decide) e c).1 r
      have k1 := (B.same i (by rw [nA]; exact hi) (by rw [NA, h]; decide) e c).1 k2
      have k0 := back _ _ (A.tr i (by rw [enn]; exact hi)) ⟨e, c, k1⟩
      rw [C.tkn i (by rw [nB]; exact hi) (by rw [NB, h]; decide), B.tkn i (by rw [nA]; exact hi) (by rw [NA, h]; decide), A.tk i (by rw [enn]; exact hi) k0 (by rw [eN]; exact h), en]
    · have k2 := (C.same i (by rw [nB]; exact hi) (by rw [NB, h]; decide) e c).1 r
      have k1 := back _ _ (B.tr i (by rw [nA]; exact hi)) ⟨e, c, k2⟩
      rw [C.tkn i (by rw [nB]; exact hi) (by rw [NB, h]; decide), B.tk i (by rw [nA]; exact hi) k1 (by rw [NA]; exact h), A.go.now, en]
    · have k1 := back _ _ (C.tr i (by rw [nB]; exact hi)) ⟨e, c, r⟩
      rw [C.tk i (by rw [nB]; exact hi) k1 (by rw [NB]; exact h), B.go.now, A.go.now, en]
  have I4 := C.go.inv.sync tk3
  rw [show (fun _ : Nat => w3.now) = fun _ => w.now + 1 from by rw [hnow]] at I4
  have rows4 : ∀ i e c, W.row { w3 with tk := fun _ => w.now + 1 } i e c ↔ w3.row i e c := fun i e c => host_row w3 { w3 with tk := fun _ => w.now + 1 } rfl (fun _ => rfl) (fun _ => rfl) i e c
  refine ⟨w1, w2, w3, { w3 with tk := fun _ => w.now + 1 }, by rw [hw0]; exact A, B, C, rfl, I4, ⟨fun i hi => hnow.symm, fun h h3 => ?_⟩, hn, hN, fun i hi => (tr3 i hi).post (rows4 i), fun i => ?_⟩
  · show (w3.H h).clock = w3.now
    have : h = 0 ∨ h = 1 ∨ h = 2 := by omega
    rcases this with rfl | rfl | rfl
    · rw [C.go.H 0 (by omega), B.go.H 0 (by omega), A.clk, en, hnow]
    · rw [C.go.H 1 (by omega), B.clk, A.go.now, en, hnow]
    · rw [C.clk, B.go.now, A.go.now, en, hnow]
  · have g0 : w0.G = w.G := by rw [← hw0]
    have hA := A.g i; have hB := B.g i; have hC := C.g i
    rw [g0] at hA
    exact ⟨(hA.1.trans hB.1).trans hC.1, (hC.2.trans hB.2).trans hA.2⟩
/-- THE FIRST WORLD -/
def W.init : W := { H := fun h => Hst.init ((h : Int) + 1), q := fun _ _ => [], now := 0, n := 0, N := fun _ => kidN 0 En.zero 0, G := fun _ => Gh.new 0 0, tk := fun _ => 0, D := [], M := fun _ => 0 }
theorem Tb.init_ok : Tb.init.Ok := by
  refine ⟨?_, fun i => ?_, fun i => ?_, fun i => ?_, ?_, fun i => ?_, fun i => ?_, fun i => ?_, fun i => ?_, ?_, ?_, ?_⟩
  · exact (by decide : -1 ≤ (0 : Int) ∧ (0 : Int) < 6)
  · show -1 ≤ (if i < 5 then (i : Int) + 1 else if i = 5 then -1 else 0) ∧ (if i < 5 then (i : Int) + 1 else if i = 5 then -1 else 0) < 6
    split
    · omega
    · split <;> omega
  · show -1 ≤ (if i < 4 then (-1 : Int) else 0) ∧ (if i < 4 then (-1 : Int) else 0) < 6
    split <;> omega
  · show -1 ≤ (if i < 8 then (-1 : Int) else 0) ∧ (if i < 8 then (-1 : Int) else 0) < 6
    split <;> omega
  · exact (by decide : 0 ≤ (0 : Int) ∧ (0 : Int) < 256)
  · exact En.ok_zero
  · exact (by decide : -1000 ≤ (0 : Int) ∧ (0 : Int) ≤ 1000)
  · exact (by decide : 0 ≤ (0 : Int) ∧ (0 : Int) < 2)
  · exact (by decide : 0 ≤ (0 : Int) ∧ (0 : Int) ≤ 2)
  · exact (by decide : -1000 ≤ (0 : Int) ∧ (0 : Int) ≤ 1000)
  · exact (by decide : 1 ≤ (1 : Int) ∧ (1 : Int) ≤ 1152921504606846976)
  · exact (by decide : 8 ≤ (8 : Int) ∧ (8 : Int) ≤ 15)
theorem Ipt.init_ok {a : Int} (h : 0 ≤ a ∧ a < 256) : (Ipt.init a).Ok := by
  refine ⟨h, ?_, ?_, fun i => ?_⟩
  · exact (by decide : 0 ≤ (0 : Int) ∧ (0 : Int) < 256)
  · exact (by decide : 0 ≤ (24 : Int) ∧ (24 : Int) ≤ 24)
  · exact ⟨(by decide : 0 ≤ (0 : Int) ∧ (0 : Int) ≤ 4), (by decide : -1 ≤ (0 : Int) ∧ (0 : Int) ≤ 40), (by decide : 0 ≤ (0 : Int) ∧ (0 : Int) < 1099511627776), fun j => (by decide : 0 ≤ (0 : Int) ∧ (0 : Int) < 256)⟩
theorem Inv.init : Inv W.init ∧ Syn W.init := by
  have no : ∀ i, i < W.init.n → False := fun i h => absurd h (Nat.not_lt_zero i)
  refine ⟨⟨fun h h3 => ?_, fun h => ?_, ?_, fun h h3 => rfl, fun h h3 i hi hu => ?_, fun i h => (no i h).elim, fun i h => (no i h).elim, fun h h3 sd e he => ?_, fun i h => (no i h).elim, fun i j h => (no i h).elim, fun i h => (no i h).elim, fun i h => (no i h).elim, fun i h => (no i h).elim, fun i h => (no i h).elim, fun i h => (no i h).elim, fun i h => (no i h).elim, fun i h => (no i h).elim, fun i h => (no i h).elim, fun i j _ h => (no j h).elim, fun i p m => (no i m.hi).elim, fun i p m => (no i m.hi).elim, fun i h => (no i h).elim, fun r hr => absurd hr (by simp [W.init]), fun r hr => absurd hr (by simp [W.init])⟩, ⟨fun i h => (no i h).elim, fun h h3 => rfl⟩⟩
  · exact ⟨rfl, Ipt.init_ok (by omega), rfl, fun k => Conn.ok_zero, Tb.init_good, Tb.init_K, Tb.init_ok, fun s s4 _ => rfl⟩
  · exact (by decide : (0 : Int) ≤ 0 ∧ 0 ≤ (24 : Int) ∧ (24 : Int) ≤ 24)
  · refine ⟨fun d hd => ?_, fun d e hd => ?_, fun d e hd => ?_, fun d hd => ?_, fun s => ?_, fun s => ?_⟩
    · simp [W.init, dgs] at hd
    · simp [W.init, dgs] at hd
    · simp [W.init, dgs] at hd
    · simp [W.init, dgs] at hd
    · exact (by decide : 0 ≤ (24 : Int) ∧ (24 : Int) ≤ 24)
    · exact (by decide : (0 : Int) ≤ 0)
  · exact absurd (show false = true from hu) (by decide)
  · have he : Tb.init.at sd = some e := he
    rw [Tb.init_at] at he; cases he
end Go.Proofs.Qxb6500351aGreat
