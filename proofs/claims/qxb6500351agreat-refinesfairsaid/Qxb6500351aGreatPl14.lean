/- THE PLAIN LAW of the two rings: they hold the streams. No Go in sight. -/
import Derived.Test.Qxb6500351aGreatPl13
set_option linter.unusedVariables false
set_option linter.unusedSimpArgs false
namespace Go.Proofs.Qxb6500351aGreat
open Go.Eng
/-- what the law knows of one end: its first number, its birth, how many bytes it has had acked, has sent, has received in order; FIN sent, FIN acked, the peer's FIN taken -/
structure Gh where
  iss : Int
  b : Int
  u : Int
  x : Int
  r : Int
  f : Bool
  fa : Bool
  pf : Bool
  rd : Int
structure SndR (s : Sb) (iss u x : Int) (S : List Int) : Prop where
  una : s.una = (iss + 1 + u) % 256
  u0 : 0 ≤ u
  ux : u ≤ x
  xn : x ≤ S.length
  cnt : s.count = S.length - u
  snt : s.sent = x - u
  ring : ∀ k : Nat, (k : Int) < s.count → s.ring ((s.head.toNat + k) % 16) = S.getD (u.toNat + k) 0
structure RcvR (b : Rb) (piss r : Int) (P : List Int) : Prop where
  nxt : b.nxt = (piss + 1 + r) % 256
  av : b.avail ≤ r
  rn : r ≤ P.length
  old : ∀ k : Nat, 1 ≤ k → (k : Int) ≤ b.avail → b.ring (b.place (-k)) = P.getD (r - k).toNat 0
  ahead : ∀ d : Nat, d < 16 → b.ahead.toNat.testBit (b.place d) = true → (d : Int) < 16 - b.avail ∧ r + d < P.length ∧ b.ring (b.place d) = P.getD (r.toNat + d) 0
/-! ### the send buffer -/
theorem SndR.reset (s : Sb) (iss : Int) : SndR (s.reset (seqAdd iss 1)) iss 0 0 [] := by
  refine ⟨?_, by omega, by omega, by simp, by simp [Sb.reset], by simp [Sb.reset], fun k hk => ?_⟩
  · unfold Sb.reset seqAdd; dsimp only; omega
  · have : (k : Int) < 0 := hk
    omega
theorem SndR.put {s : Sb} (ok : s.Ok) {iss u x : Int} {S : List Int} (h : SndR s iss u x S) (p : List Int) : SndR (s.put p) iss u x (S ++ p.take (s.putN p).toNat) := by
  have hn : 0 ≤ s.putN p ∧ s.putN p ≤ 16 - s.count ∧ s.putN p ≤ p.length := by
    have := ok.count
    unfold Sb.putN least; omega
  have hc := h.cnt
  have hu0 := h.u0; have hux := h.ux; have hxn := h.xn
  have hl : (p.take (s.putN p).toNat).length = (s.putN p).toNat := by rw [List.length_take]; omega
  refine ⟨h.una, h.u0, h.ux, ?_, ?_, h.snt, fun k hk => ?_⟩
  · rw [List.length_append]; have := h.xn; omega
  · rw [List.length_append, hl]; show s.count + s.putN p = _; omega
  · have hk' : (k : Int) < s.count + s.putN p := hk
    have h0 := ok.head0; have h1 := ok.head1; have h2 := ok.count
    show putRing s.ring ((s.head + s.count) % 16).toNat (s.putN p).toNat p ((s.head.toNat + k) % 16) = _
    unfold putRing
    by_cases hlt : (k : Int) < s.count
    · rw [if_neg (by omega), h.ring k hlt, List.getD_eq_getElem?_getD, List.getD_eq_getElem?_getD, List.getElem?_append_left (by omega)]
    · rw [if_pos (by omega), List.getD_eq_getElem?_getD, List.getD_eq_getElem?_getD, List.getElem?_append_right (by omega), List.getElem?_take, if_pos (by omega)]
      congr 2; omega
theorem SndR.next {s : Sb} (ok : s.Ok) {iss u x : Int} {S : List Int} (h : SndR s iss u x S) (mx : Int) : SndR (s.next mx) iss u (x + s.nextN mx) S := by
  have hn := Sb.nextN_b ok mx
  have h1 := h.cnt; have h2 := h.snt; have h3 := h.ux
  refine ⟨h.una, h.u0, by omega, by omega, h.cnt, ?_, h.ring⟩
  show s.sent + s.nextN mx = _; omega
theorem SndR.span {s : Sb} (ok : s.Ok) {iss u x : Int} {S : List Int} (h : SndR s iss u x S) {off n : Int} (h0 : 0 ≤ off) (h1 : off + n ≤ s.count) : s.span off n = (S.drop (u + off).toNat).take n.toNat := by
  have hc := h.cnt; have hu := h.u0; have hh := ok.head0
  unfold Sb.span ringAt
  apply List.ext_getElem
  · simp only [List.length_map, List.length_range, List.length_take, List.length_drop]; omega
  · intro i hi1 hi2
    simp only [List.length_map, List.length_range] at hi1
    rw [List.getElem_map, List.getElem_range]
    have e : (((s.head + off) % 16).toNat + i) % 16 = (s.head.toNat + (off.toNat + i)) % 16 := by omega
    have hr := h.ring (off.toNat + i) (by omega)
    rw [e, hr, List.getElem_take, List.getElem_drop, List.getD_eq_getElem?_getD, List.getElem?_eq_getElem (by omega)]
    simp only [Option.getD_some]
    congr 1; omega
theorem SndR.ack {s : Sb} (ok : s.Ok) {iss u x : Int} {S : List Int} (h : SndR s iss u x S) {d : Int} (h0 : 0 ≤ d) (h1 : d ≤ s.sent) : SndR (s.ack (seqAdd s.una d)) iss (u + d) x S := by
  have hb := ok.sentc; have hc := ok.count; have h6 := ok.una0; have h7 := ok.una1
  have e : seqDiff (seqAdd s.una d) s.una = d := by unfold seqDiff seqAdd; omega
  have k1 := h.una; have k2 := h.u0; have k3 := h.ux; have k4 := h.xn; have k5 := h.cnt; have k6 := h.snt
  unfold Sb.ack
  rw [e]
  by_cases hd : d = 0
  · subst hd
    rw [if_pos (by omega), Int.add_zero]; exact h
  · rw [if_neg (by omega)]
    refine ⟨by dsimp only; omega, by omega, by omega, k4, by dsimp only; omega, by dsimp only; omega, fun k hk => ?_⟩
    have hk' : (k : Int) < s.count - d := hk
    have hh := ok.head0; have hh1 := ok.head1
    have := h.ring (d.toNat + k) (by omega)
    show s.ring ((((s.head + d) % 16).toNat + k) % 16) = _
    have e1 : (((s.head + d) % 16).toNat + k) % 16 = (s.head.toNat + (d.toNat + k)) % 16 := by omega
    have e2 : (u + d).toNat + k = u.toNat + (d.toNat + k) := by omega
    rw [e1, e2]; exact this
/-! ### the receive buffer -/
theorem RcvR.reset (b : Rb) (piss : Int) : RcvR (b.reset (seqAdd piss 1)) piss 0 [] := by
  refine ⟨?_, by simp [Rb.reset], by simp, fun k h1 h2 => ?_, fun d h1 h2 => ?_⟩
  · unfold Rb.reset seqAdd; dsimp only; omega
  · have : (k : Int) ≤ 0 := h2
    omega
  · have h3 : (0 : Int).toNat.testBit _ = true := h2
    simp at h3
/-- the peer's stream grows -/
theorem RcvR.grow {b : Rb} {piss r : Int} {P : List Int} (h : RcvR b piss r P) (hr : 0 ≤ r) (l : List Int) : RcvR b piss r (P ++ l) := by
  have h1 := h.rn
  refine ⟨h.nxt, h.av, by rw [List.length_append]; omega, fun k k1 k2 => ?_, fun d d1 d2 => ?_⟩
  · have h2 := h.av
    rw [h.old k k1 k2, List.getD_eq_getElem?_getD, List.getD_eq_getElem?_getD, List.getElem?_append_left (by omega)]
  · obtain ⟨a1, a2, a3⟩ := h.ahead d d1 d2
    refine ⟨a1, by rw [List.length_append]; omega, ?_⟩
    rw [a3, List.getD_eq_getElem?_getD, List.getD_eq_getElem?_getD, List.getElem?_append_left (by omega)]
theorem place_inj {b : Rb} {d e : Int} (h1 : 0 ≤ d ∧ d < 16) (h2 : 0 ≤ e ∧ e < 16) (h : b.place d = b.place e) : d = e := by
  unfold Rb.place at h; omega
theorem RcvR.set1 {b : Rb} (ok : b.Ok) {piss r : Int} {P : List Int} (h : RcvR b piss r P) (hr : 0 ≤ r) {d : Int} {v : Int} (hd : 0 ≤ d ∧ d < 16 - b.avail) (hp : r + d < P.length) (hv : v = P.getD (r + d).toNat 0) : RcvR (b.set1 d v) piss r P := by
  have ha := ok.av0
  unfold Rb.set1
  split
  · refine ⟨h.nxt, h.av, h.rn, fun k k1 k2 => ?_, fun e e1 e2 => ?_⟩
    · have k3 : (k : Int) ≤ b.avail := k2
      show upA b.ring (b.place d) v (b.place (-k)) = _
      rw [upA_ne]
      · exact h.old k k1 k3
      · intro hh; unfold Rb.place at hh; omega
    · have e3 : ((b.ahead.toNat ||| b.mark d : Nat) : Int).toNat.testBit (b.place e) = true := e2
      rw [Int.toNat_natCast, Rb.mark, or_testBit_two_pow, Bool.or_eq_true, decide_eq_true_eq] at e3
      show (e : Int) < 16 - b.avail ∧ r + e < P.length ∧ upA b.ring (b.place d) v (b.place e) = _
      by_cases hde : d = (e : Int)
      · subst hde
        rw [upA_at, hv]
        exact ⟨hd.2, hp, by congr 1; omega⟩
      · have hne : b.place e ≠ b.place d := fun hh => hde (place_inj ⟨hd.1, by omega⟩ ⟨by omega, by omega⟩ hh.symm)
        rw [upA_ne _ _ hne]
        exact h.ahead e e1 (e3.resolve_right (fun hh => hne hh.symm))
  · exact h
theorem RcvR.lay {b : Rb} (ok : b.Ok) {piss r : Int} {P : List Int} (h : RcvR b piss r P) (hr : 0 ≤ r) {d0 : Int} {p : List Int} (hb : Bytes p) (hp : ∀ j : Nat, j < p.length → 0 ≤ d0 + j → r + d0 + j < P.length ∧ p.getD j 0 = P.getD (r + d0 + j).toNat 0) : ∀ k : Nat, k ≤ p.length → (k = 0 ∨ d0 + k ≤ 16 - b.avail) → RcvR (b.lay d0 p k) piss r P
  | 0, _, _ => h
  | k + 1, hk, hk2 => by
    have ih := RcvR.lay ok h hr hb hp k (by omega) (by omega)
    have io := Rb.ok_lay ok (d0 := d0) hb k (by omega)
    have hs := b.lay_same d0 p k
    simp only [Rb.lay]
    split
    · exact ih
    · rename_i hneg
      obtain ⟨q1, q2⟩ := hp k (by omega) (by omega)
      refine RcvR.set1 io ih hr ⟨by omega, by rw [hs.2]; omega⟩ (by omega) ?_
      rw [q2]; congr 1; congr 1; omega
theorem bit_of {b : Rb} (h : ¬ b.ahead.toNat &&& b.mark 0 = 0) : b.ahead.toNat.testBit (b.place 0) = true := by
  cases ht : b.ahead.toNat.testBit (b.place 0) with
  | true => rfl
  | false => exact absurd ((nand_zero _ _).2 ht) h
theorem RcvR.step {b : Rb} (ok : b.Ok) {piss r : Int} {P : List Int} (h : RcvR b piss r P) (hr : 0 ≤ r) (hb : ¬ b.ahead.toNat &&& b.mark 0 = 0) : RcvR b.step piss (r + 1) P := by
  obtain ⟨a1, a2, a3⟩ := h.ahead 0 (by omega) (bit_of hb)
  have hn := h.nxt; have hav := h.av; have ha0 := ok.av0
  have hpl : ∀ d : Int, b.step.place d = b.place (d + 1) := fun d => by unfold Rb.place Rb.step; dsimp only; omega
  have hring : b.step.ring = b.ring := rfl
  have hst : b.step.avail = b.avail + 1 := rfl
  refine ⟨by show (b.nxt + 1) % 256 = _; omega, by rw [hst]; omega, by omega, fun k k1 k2 => ?_, fun d d1 d2 => ?_⟩
  · rw [hst] at k2
    rw [hring, hpl]
    by_cases hk : k = 1
    · subst hk
      have e1 : b.place (-((1 : Nat) : Int) + 1) = b.place 0 := rfl
      rw [e1]
      have e2 : (r + 1 - ((1 : Nat) : Int)).toNat = r.toNat + 0 := by omega
      rw [e2]; exact a3
    · have := h.old (k - 1) (by omega) (by omega)
      have e1 : -(((k - 1 : Nat)) : Int) = -(k : Int) + 1 := by omega
      rw [e1] at this
      rw [this]; congr 1; omega
  · rw [hpl] at d2 ⊢
    rw [hring, hst]
    have e0 : b.step.ahead.toNat = clr b.ahead.toNat (b.mark 0) := by simp [Rb.step]
    rw [e0, clr_testBit, Rb.mark, Nat.testBit_two_pow, Bool.and_eq_true] at d2
    have hne : ¬ b.place 0 = b.place ((d : Int) + 1) := fun hh => by
      have := d2.2; rw [decide_eq_true hh] at this; exact absurd this (by decide)
    have hd15 : d < 15 := by
      rcases Nat.lt_or_ge d 15 with h1 | h1
      · exact h1
      · exact absurd (by unfold Rb.place; omega) hne
    obtain ⟨c1, c2, c3⟩ := h.ahead (d + 1) (by omega) (by simpa using d2.1)
    refine ⟨by omega, by omega, ?_⟩
    have e1 : ((d : Int) + 1) = ((d + 1 : Nat) : Int) := by omega
    rw [e1, c3]; congr 1; omega
theorem advF_avail : ∀ (f : Nat) (b : Rb), (Rb.advF f b).1.avail = b.avail + (Rb.advF f b).2
  | 0, b => by simp [Rb.advF]
  | f + 1, b => by
    simp only [Rb.advF]
    split
    · simp
    · have := advF_avail f b.step
      have e : b.step.avail = b.avail + 1 := rfl
      dsimp only; omega
theorem RcvR.advF : ∀ (f : Nat) {b : Rb} {piss r : Int} {P : List Int}, b.Ok → RcvR b piss r P → 0 ≤ r → RcvR (Rb.advF f b).1 piss (r + (Rb.advF f b).2) P ∧ 0 ≤ (Rb.advF f b).2
  | 0, b, piss, r, P, ok, h, hr => ⟨by simpa [Rb.advF] using h, by simp [Rb.advF]⟩
  | f + 1, b, piss, r, P, ok, h, hr => by
    simp only [Rb.advF]
    split
    · exact ⟨by simpa using h, by simp⟩
    · rename_i hb
      have h1 := RcvR.step ok h hr hb
      obtain ⟨i1, i2⟩ := RcvR.advF f (Rb.ok_step ok hb) h1 (by omega)
      dsimp only
      refine ⟨?_, by omega⟩
      have e : r + ((Rb.advF f b.step).2 + 1) = r + 1 + (Rb.advF f b.step).2 := by omega
      rw [e]; exact i1
/-- DATA COME IN -/
theorem RcvR.ins {b : Rb} (ok : b.Ok) {piss r : Int} {P : List Int} (h : RcvR b piss r P) (hr : 0 ≤ r) {k : Int} {p : List Int} (hb : Bytes p) (hk : -128 ≤ k - r ∧ k - r < 128) (hp : ∀ j : Nat, j < p.length → k + j < P.length ∧ p.getD j 0 = P.getD (k + j).toNat 0) :
    ∃ n, 0 ≤ n ∧ RcvR (b.ins ((piss + 1 + k) % 256) p).1 piss (r + n) P ∧ (b.ins ((piss + 1 + k) % 256) p).1.avail = b.avail + n := by
  have hn := h.nxt
  have e : seqDiff ((piss + 1 + k) % 256) b.nxt = k - r := by unfold seqDiff; omega
  unfold Rb.ins
  rw [e]
  have hl := b.layN_le (k - r) p
  have h1 := RcvR.lay ok h hr (d0 := k - r) hb (fun j hj h0 => by
    obtain ⟨q1, q2⟩ := hp j hj
    have e1 : r + (k - r) + (j : Int) = k + j := by omega
    rw [e1]; exact ⟨q1, q2⟩) (b.layN (k - r) p) hl.1 hl.2.1
  have ho := Rb.ok_lay ok (d0 := k - r) hb (b.layN (k - r) p) hl.2.1
  obtain ⟨i1, i2⟩ := RcvR.advF _ ho h1 hr
  refine ⟨_, i2, i1, ?_⟩
  unfold Rb.adv
  rw [advF_avail, (b.lay_same (k - r) p _).2]
theorem RcvR.read {b : Rb} (ok : b.Ok) {piss r : Int} {P : List Int} (h : RcvR b piss r P) (hr : 0 ≤ r) (mx : Int) : RcvR (b.read mx) piss r P ∧ b.first (b.readN mx) = (P.drop (r - b.avail).toNat).take (b.readN mx).toNat := by
  have hn := Rb.readN_b ok mx
  have hav := h.av; have ha0 := ok.av0; have hrn := h.rn; have ha1 := ok.av1
  have n0 := ok.nxt0
  refine ⟨⟨h.nxt, by show b.avail - b.readN mx ≤ r; omega, h.rn, fun k k1 k2 => h.old k k1 (by have : (k : Int) ≤ b.avail - b.readN mx := k2; omega), fun d d1 d2 => ?_⟩, ?_⟩
  · obtain ⟨c1, c2, c3⟩ := h.ahead d d1 d2
    exact ⟨by show (d : Int) < 16 - (b.avail - b.readN mx); omega, c2, c3⟩
  · unfold Rb.first ringAt
    apply List.ext_getElem
    · simp only [List.length_map, List.length_range, List.length_take, List.length_drop]; omega
    · intro i hi1 hi2
      simp only [List.length_map, List.length_range] at hi1
      rw [List.getElem_map, List.getElem_range]
      have e : (((b.nxt + 256 - b.avail) % 16).toNat + i) % 16 = b.place (-((b.avail.toNat - i : Nat) : Int)) := by unfold Rb.place; omega
      rw [e, h.old (b.avail.toNat - i) (by omega) (by omega), List.getElem_take, List.getElem_drop, List.getD_eq_getElem?_getD, List.getElem?_eq_getElem (by omega)]
      simp only [Option.getD_some]
      congr 1; omega
end Go.Proofs.Qxb6500351aGreat
