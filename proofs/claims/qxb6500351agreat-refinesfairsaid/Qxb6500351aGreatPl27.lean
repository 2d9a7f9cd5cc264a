/- THE PLAIN LAW of the whole network, part 10: a row ticks. No Go in sight. -/
import Derived.Test.Qxb6500351aGreatPl26
set_option linter.unusedVariables false
set_option linter.unusedSimpArgs false
namespace Go.Proofs.Qxb6500351aGreat
open Go.Eng
theorem conn_eta {c d : Conn} (h1 : c.x = d.x) (h2 : c.s = d.s) (h3 : c.r = d.r) : c = d := by
  cases c; cases d; simp only at h1 h2 h3; subst h1; subst h2; subst h3; rfl
/-- a tick of an ended connection -/
def Conn.aged (c : Conn) : Conn := ⟨{ c.x with quiet := if 0 < c.x.quiet then c.x.quiet - 1 else c.x.quiet }, c.s, c.r⟩
theorem Conn.tick_quiet {c : Conn} (h : c.x.st = 4) : (c.aged.x.quiet = 0 ∧ c.r.avail = 0 ∧ c.tick = (c.aged.wipe, [])) ∨ (¬ (c.aged.x.quiet = 0 ∧ c.r.avail = 0) ∧ c.tick = (c.aged, [])) := by
  have e : (if 0 < c.x.quiet then (⟨{ c.x with quiet := c.x.quiet - 1 }, c.s, c.r⟩ : Conn) else c) = c.aged := by
    unfold Conn.aged
    split
    · rfl
    · rfl
  unfold Conn.tick
  rw [if_neg (by omega), if_pos h]
  dsimp only
  rw [e]
  by_cases hq : c.aged.x.quiet = 0 ∧ c.aged.r.avail = 0
  · left; rw [if_pos hq]; exact ⟨hq.1, hq.2, rfl⟩
  · right; rw [if_neg hq]; exact ⟨hq, rfl⟩
theorem Conn.ok_aged {c : Conn} (h : c.Ok) : c.aged.Ok := by
  obtain ⟨a1, a2, a3, a4, a5, a6, a7⟩ := h.x
  refine ⟨⟨a1, a2, a3, a4, a5, a6, ?_⟩, h.s, h.r⟩
  unfold Conn.aged; dsimp only; split <;> omega
/-- A ROW TICKS -/
theorem Inv.tick1 {w : W} (I : Inv w) {i : Nat} (hi : i < w.n) {e0 : En} {c0 : Conn} (r : w.row i e0 c0) (clk : (w.host i).clock = w.now) (htk : w.tk i + 1 = w.now) :
    (c0.tick.1.x.st ≠ 0 ∧ c0.tick.2.length ≤ 3 ∧ ∃ L g1, L.map Prod.fst = c0.tick.2 ∧ Done w i e0 c0 c0.tick.1 (w.host i).t (w.q (w.N i).host.toNat) L g1 (w.N i)) ∨
    (c0.tick.1.x.st = 0 ∧ c0.x.st = 4 ∧ c0.tick.2 = [] ∧ ∃ t', (w.host i).t.freeSd (w.N i).sd = (0, t') ∧ t'.eph = (w.host i).t.eph ∧ (∀ x, t'.at x = if x = (w.N i).sd then none else (w.host i).t.at x) ∧ Inv (w.drop i e0 c0.tick.1 t' (updQ (w.q (w.N i).host.toNat) e0.parent ((w.q (w.N i).host.toNat e0.parent).erase (w.N i).sd))) ∧
      (∀ e c, ¬ (w.drop i e0 c0.tick.1 t' (updQ (w.q (w.N i).host.toNat) e0.parent ((w.q (w.N i).host.toNat e0.parent).erase (w.N i).sd))).row i e c) ∧ ∀ j, j < w.n → j ≠ i → ∀ e c, (w.drop i e0 c0.tick.1 t' (updQ (w.q (w.N i).host.toNat) e0.parent ((w.q (w.N i).host.toNat e0.parent).erase (w.N i).sd))).row j e c ↔ w.row j e c) := by
  have ok0 := I.row_c hi r
  have T := Tab.same I hi r
  have hid := SameId.refl (w.N i)
  have gi := I.gh i hi
  have htn := I.tkn i hi
  have HI := I.hhost hi
  have orf : ∀ b : Bool, (b || decide ((4 : Int) = 3)) = b := fun b => by cases b <;> rfl
  have fail : c0.x.st ≠ 4 → mayStep c0.x.st 4 = true → Done w i e0 c0 (c0.fail 19) (w.host i).t (w.q (w.N i).host.toNat) [] (w.G i) (w.N i) := fun h4 hm => by
    obtain ⟨f1, f2, f3, f4, f5, f6⟩ := Conn.fail_is ok0 19 (by decide)
    exact ⟨I.fail hi r clk f1 f2 f3 f4 f5 (.inl f6) hid rfl rfl (fun h => h) rfl (fun g k h => absurd h (by simp)), hid, (by rw [f2]; exact (orf _).symm), .inl rfl, hm, (fun h => absurd h h4), Gh.Le.refl _, rfl⟩
  have go : ∀ (st4 : c0.x.st = 4), (¬ (c0.aged.x.quiet = 0 ∧ c0.r.avail = 0) → ∃ L g1, L.map Prod.fst = ([] : List Seg) ∧ Done w i e0 c0 c0.aged (w.host i).t (w.q (w.N i).host.toNat) L g1 (w.N i)) := fun st4 hna => by
    have hage : c0.x.quiet ≤ c0.aged.x.quiet + 1 := by unfold Conn.aged; dsimp only; split <;> omega
    have hage2 : c0.x.quiet - 1 ≤ c0.aged.x.quiet := by omega
    have oka := Conn.ok_aged ok0
    have sta4 : c0.aged.x.st = 4 := st4
    cases I.sta i hi e0 c0 r with
    | syn cl pe o => have := o.st; omega
    | srv p cl pe o => have := o.st; omega
    | bad st why av pf b =>
      exact ⟨[], _, rfl, ⟨I.fail (x1 := w.N i) (L := []) hi r clk oka sta4 why av pf (.inr ⟨st, by omega⟩) hid rfl rfl (fun h => h) rfl (fun g k h => absurd h (by simp)), hid, by rw [sta4]; exact (orf _).symm, .inl rfl, by rw [sta4, st]; rfl, fun _ => .inl rfl, Gh.Le.refl _, rfl⟩⟩
    | well p m rel wl wc wo b =>
      have prq := I.pair i p m
      have hb := b st4
      have rel1 : Rel c0.aged (w.G i) (w.N i).sent (w.G p) (w.N p).sent := rel.ctl oka.x rfl rfl rfl id
      have wl1 : Well c0.aged (w.G i) := by
        refine ⟨wl.why, .inr ⟨sta4, ?_⟩⟩
        rcases wl.st with k | k
        · have := k.1.st; omega
        · exact k.2
      obtain ⟨L, hL, hI⟩ := I.well (segs := []) (x1 := w.N i) hi r clk m T rel1 wl1 (Gh.Le.refl _) ⟨[], by simp, fun _ => rfl⟩ id hid rfl wc wo (fun h => by rw [I.rd i hi e0 c0 r h, wo]) ⟨prq.ur, prq.fa⟩ (Outs.nil _ _ _) (fun h => absurd sta4 h) (.inl (by omega)) (fun _ => .inr ⟨st4, by omega⟩) (fun _ => by omega) (fun _ => .inr (.inr rfl))
      exact ⟨L, _, hL, ⟨hI, hid, by rw [sta4]; exact (orf _).symm, .inl rfl, by rw [sta4, st4]; rfl, fun _ => .inl rfl, Gh.Le.refl _, rfl⟩⟩
  by_cases st4 : c0.x.st = 4
  · rcases Conn.tick_quiet st4 with ⟨q1, q2, e⟩ | ⟨q1, e⟩
    · right
      have hq : c0.x.quiet ≤ 1 := by
        have := ok0.x.quiet
        unfold Conn.aged at q1; dsimp only at q1; split at q1 <;> omega
      rw [e]
      have oka := Conn.ok_wipe (Conn.ok_aged ok0)
      obtain ⟨u, u1, u2, u3, u4, u5⟩ := HI.good.freeC HI.tok.blocks r.at_ (by rw [r.kind]; decide)
      have uK := HI.good.K_free HI.k r.at_
      have uo := HI.good.ok_free HI.tok HI.k r.at_
      rw [u1] at uK uo
      obtain ⟨d1, d2, d3⟩ := I.drop hi r st4 hq htk oka rfl u2 uK uo u5 u3
      exact ⟨rfl, st4, rfl, u, u1, u4, u5, d1, d2, d3⟩
    · left
      rw [e]
      obtain ⟨L, g1, hL, hD⟩ := go st4 q1
      have h4 : c0.aged.x.st = 4 := st4
      exact ⟨by rw [h4]; decide, by simp, L, g1, hL, hD⟩
  · left
    cases I.sta i hi e0 c0 r with
    | bad st => exact absurd st st4
    | syn cl pe o t pa nc wo z zs =>
      have st := o.st
      rcases o.tick (.inl rfl) with ⟨f1, f2, f3, f4⟩ | ⟨o1, o2, o3, o4, o5⟩
      · have e : c0.tick.1 = c0.fail 19 := conn_eta f1 f2 f3
        rw [e, f4]
        exact ⟨by show (4 : Int) ≠ 0; decide, by simp, [], _, rfl, fail st4 (by rw [st]; rfl)⟩
      · have cr : c0.tick.1.x.credit ≤ c0.x.credit + 12 * (w.now - w.tk i) := by
          have := o1.ok.x.credit; have := ok0.x.credit; omega
        obtain ⟨a1, a2, a3, a4⟩ := o1.again1 gi.iss
        have key : ∀ L : List (Seg × Kd), (∀ g k, (g, k) ∈ L → g = c0.tick.1.again ∧ k = .syn i) → Done w i e0 c0 c0.tick.1 (w.host i).t (w.q (w.N i).host.toNat) L (w.G i) (w.N i) := fun L hL =>
          ⟨I.syn hi r clk cl pe st o1 (by omega) cr (fun g k h => by
            obtain ⟨b1, b2⟩ := hL g k h
            rw [b1, b2]; exact ⟨a1, .inr ⟨rfl, a2, a3, a4⟩⟩), hid, (by rw [o1.st, wo]; rfl), .inl rfl, (by rw [o1.st, st]; rfl), (fun h => absurd h st4), Gh.Le.refl _, rfl⟩
        refine ⟨by rw [o1.st]; decide, ?_, ?_⟩
        · rcases o5 with k | k <;> rw [k] <;> simp
        · rcases o5 with k | k
          · exact ⟨[], _, by rw [k]; rfl, key [] (fun g k h => absurd h (by simp))⟩
          · refine ⟨[(c0.tick.1.again, .syn i)], w.G i, by rw [k]; rfl, key _ (fun g k h => ?_)⟩
            have h : (g, k) = (c0.tick.1.again, Kd.syn i) := by simpa using h
            cases h; exact ⟨rfl, rfl⟩
    | srv p cl pe o t pa nx nc wo z zs =>
      have st := o.st
      rcases o.tick (.inr rfl) with ⟨f1, f2, f3, f4⟩ | ⟨o1, o2, o3, o4, o5⟩
      · have e : c0.tick.1 = c0.fail 19 := conn_eta f1 f2 f3
        rw [e, f4]
        exact ⟨by show (4 : Int) ≠ 0; decide, by simp, [], _, rfl, fail st4 (by rw [st]; rfl)⟩
      · have cr : c0.tick.1.x.credit ≤ c0.x.credit + 12 * (w.now - w.tk i) := by
          have := o1.ok.x.credit; have := ok0.x.credit; omega
        obtain ⟨a1, a2, a3, a4, a5⟩ := o1.again2
        have key : ∀ L : List (Seg × Kd), (∀ g k, (g, k) ∈ L → g = c0.tick.1.again ∧ k = .sa i) → Done w i e0 c0 c0.tick.1 (w.host i).t (w.q (w.N i).host.toNat) L (w.G i) (w.N i) := fun L hL =>
          ⟨I.srv hi r clk st o1 (by rw [o3]) (by omega) cr (fun g k h => by
            obtain ⟨b1, b2⟩ := hL g k h
            rw [b1, b2]; exact ⟨a1, .inr ⟨rfl, a2, a3, by rw [a4, o3], a5⟩⟩), hid, (by rw [o1.st, wo]; rfl), .inl rfl, (by rw [o1.st, st]; rfl), (fun h => absurd h st4), Gh.Le.refl _, rfl⟩
        refine ⟨by rw [o1.st]; decide, ?_, ?_⟩
        · rcases o5 with k | k <;> rw [k] <;> simp
        · rcases o5 with k | k
          · exact ⟨[], _, by rw [k]; rfl, key [] (fun g k h => absurd h (by simp))⟩
          · refine ⟨[(c0.tick.1.again, .sa i)], w.G i, by rw [k]; rfl, key _ (fun g k h => ?_)⟩
            have h : (g, k) = (c0.tick.1.again, Kd.sa i) := by simpa using h
            cases h; exact ⟨rfl, rfl⟩
    | well p m rel wl wc wo b =>
      rcases wl.st with ⟨rn, nfa⟩ | k
      · have st := rn.st
        have prq := I.pair i p m
        rcases rel.tick rn with ⟨f1, f2, f3, f4⟩ | ⟨g', k1, k2, k3, k4, k5, k6, k7⟩
        · have e : c0.tick.1 = c0.fail 19 := conn_eta f1 f2 f3
          rw [e, f4]
          exact ⟨by show (4 : Int) ≠ 0; decide, by simp, [], _, rfl, fail st4 (by rw [st]; rfl)⟩
        · have hcr := k3.ok.x.credit
          have hcr0 := ok0.x.credit
          have wl1 : Well c0.tick.1 g' := ⟨k4.why, .inl ⟨k4, fun h => nfa ⟨by rw [← k1.fa]; exact h.1, by rw [← k1.pf]; exact h.2⟩⟩⟩
          obtain ⟨L, hL, hI⟩ := I.well (segs := c0.tick.2) (x1 := w.N i) hi r clk m T k3 wl1 k1.le ⟨[], by simp, fun _ => rfl⟩ id hid rfl (k7.trans wc) wo (fun h => by rw [I.rd i hi e0 c0 r h, wo]) ⟨by rw [k1.u]; exact prq.ur, by rw [k1.fa]; exact prq.fa⟩ k5 (fun _ => ⟨st4, by omega⟩) (.inl (by omega)) (fun h => by have := k4.st; omega) (fun h => by have := k4.st; omega) (fun h => by have := k4.st; omega)
          exact ⟨by rw [k4.st]; decide, k6, L, g', hL, ⟨hI, hid, by rw [wo]; rfl, .inl rfl, by rw [k4.st, st]; rfl, (fun h => absurd h st4), k1.le, k1.rd⟩⟩
      · exact absurd k.1 st4
end Go.Proofs.Qxb6500351aGreat
