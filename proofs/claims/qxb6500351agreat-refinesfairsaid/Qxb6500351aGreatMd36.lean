/- From fair weather to what the walks ask. -/
import Derived.Test.Qxb6500351aGreatMd32
import Derived.Test.Qxb6500351aGreatFr12
set_option linter.unusedVariables false
set_option linter.unusedSimpArgs false
namespace Go.Proofs.Qxb6500351aGreat
open Go.Eng
/-- nothing was lost between the two -/
def Same (x z : Wrld) : Prop := z.spilt = x.spilt ∧ ∀ h, h < 3 → z.lost h = x.lost h
/-- the law, and fair weather where P holds -/
def LF (P : Prop) (x : Wrld) (k : Nat) : Prop := ∃ w L, Law w L x (k : Int) ∧ (P → FairW w L x)
def JBF (P : Prop) (Ts s0 : Int) (l0 : Nat → Int) (r : Nat) (c : Int) (k : Nat) (x : Wrld) : Prop := ∃ w L, Law w L x (k : Int) ∧ Bd P Ts (r : Int) c w L x ∧ s0 ≤ x.spilt ∧ (∀ h, h < 3 → l0 h ≤ x.lost h) ∧ (c = (r : Int) → x.spilt = s0 ∧ ∀ h, h < 3 → x.lost h = l0 h) ∧ (P → x.spilt = s0 → (∀ h, h < 3 → x.lost h = l0 h) → c = (r : Int) ∧ FairB w L x (r : Int))
def JMF (P : Prop) (Ts s0 : Int) (l0 : Nat → Int) (r : Nat) (c sp : Int) (lo : Nat → Int) (n k : Nat) (x : Wrld) : Prop := ∃ w L, Law w L x (k : Int) ∧ Mi P Ts (r : Int) c sp lo n w L x ∧ s0 ≤ sp ∧ (∀ h, h < 3 → l0 h ≤ lo h) ∧ (c = (r : Int) → sp = s0 ∧ ∀ h, h < 3 → lo h = l0 h) ∧ (P → x.spilt = s0 → (∀ h, h < 3 → x.lost h = l0 h) → c = (r : Int) ∧ FairM w L x n (r : Int))
section
variable {P : Prop} {Ts s0 c sp : Int} {l0 lo : Nat → Int} {r n k : Nat} {x z : Wrld}
theorem LF.law (h : LF P x k) : LawK x k := by obtain ⟨w, L, A, _⟩ := h; exact ⟨w, L, A⟩
theorem LF.imp {Q : Prop} (h : LF P x k) (q : Q → P) : LF Q x k := by obtain ⟨w, L, A, F⟩ := h; exact ⟨w, L, A, fun h => F (q h)⟩
theorem JBF.law (h : JBF P Ts s0 l0 r c k x) : LawK x k := by obtain ⟨w, L, A, _⟩ := h; exact ⟨w, L, A⟩
theorem JMF.law (h : JMF P Ts s0 l0 r c sp lo n k x) : LawK x k := by obtain ⟨w, L, A, _⟩ := h; exact ⟨w, L, A⟩
theorem JBF.start (h : LF P x k) : ∃ Ts, JBF P Ts x.spilt x.lost 0 0 k x := by
  obtain ⟨w, L, A, F⟩ := h
  exact ⟨w.now, w, L, A, Bd.start A, Int.le_refl _, fun _ _ => Int.le_refl _, fun _ => ⟨rfl, fun _ _ => rfl⟩, fun p _ _ => ⟨rfl, (F p).start⟩⟩
theorem JBF.mid (h : JBF P Ts s0 l0 r c k x) : JMF P Ts s0 l0 r c x.spilt x.lost x.wr.length k x := by
  obtain ⟨w, L, A, B, h1, h2, h3, F⟩ := h
  exact ⟨w, L, A, B.mid, h1, h2, h3, fun p a b => ⟨(F p a b).1, (F p a b).2.mid⟩⟩
theorem JMF.del (h : JMF P Ts s0 l0 r c sp lo n k x) (h0 : 0 < (n : Int)) (hk : k ≤ 10900000000) : DelP x 0 (fun z => JMF P Ts s0 l0 r c sp lo (n - 1) (k + 1) z) := by
  have L0 := h.law
  have hn := L0.nok (by omega)
  have hl := L0.nlen (by omega)
  obtain ⟨w, L, A, M, s1, s2, s3, F⟩ := h
  obtain ⟨m, rfl⟩ : ∃ m, n = m + 1 := ⟨n - 1, by omega⟩
  refine ⟨fun hno => ⟨w, L, (A.rest 0).mono (by omega), Mi.rest A M hno, s1, s2, s3, fun p a b => ?_⟩, fun raw d ht d3 h1 => ?_⟩
  · exfalso
    obtain ⟨_, F⟩ := F p a b
    obtain ⟨raw, d, d3, t1, t2, t3⟩ := F.take A
    exact hno raw d t1 d3 t2 t3
  obtain ⟨w', L3, z, J, M'⟩ := Mi.inp A (by omega) M ht d3 h1
  obtain ⟨z', p1, p2, p3⟩ := L0.next hk J.look J.law (y := x.input 0 d raw) hn (by show x.N.length ≤ _; omega) rfl
  refine ⟨J.ok.1, J.ok.2, z, J.look, p2, w', L3, J.law, M', s1, s2, s3, fun p a b => ?_⟩
  have hsp := J.sp
  have hb := wSpill_b (wRest x.wr 0) ((w.H d).inputF raw)
  have hx := M.spl
  have hlo := J.lost A
  have e1 : x.spilt = s0 := by omega
  have e2 : ∀ h, h < 3 → x.lost h = l0 h := fun h h3 => by
    have := M.los h h3; have := s2 h h3; have := hlo h h3; have := b h h3; omega
  obtain ⟨hc, F⟩ := F p e1 e2
  exact ⟨hc, F.inp A ht d3 h1 J (by omega) (fun h h3 => by rw [b h h3, e2 h h3])⟩
theorem JMF.tick (h : JMF P Ts s0 l0 r c sp lo n k x) (h0 : ¬ 0 < (n : Int)) (hk : k ≤ 10900000000) : ∃ z, TickOk x (tickX x) z ∧ (¬ (z.spilt = sp ∧ ∀ h, h < 3 → z.lost h = lo h) → JBF P Ts s0 l0 (r + 1) 0 (k + 1) z) ∧ (z.spilt = sp → (∀ h, h < 3 → z.lost h = lo h) → JBF P Ts s0 l0 (r + 1) (c + 1) (k + 1) z) := by
  have L0 := h.law
  have hn := L0.nok (by omega)
  have hl := L0.nlen (by omega)
  have S := L0.szs (by omega)
  have B := L0.hb (by omega)
  obtain ⟨w, L, A, M, s1, s2, s3, F⟩ := h
  have hn0 : n = 0 := by omega
  subst hn0
  have hx := M.spl
  have hlos := M.los
  have hR := M.R0
  have ld : Lend P (r : Int) c w L x sp lo := FairM.lend A fun p hc h1 h2 => by
    obtain ⟨q1, q2⟩ := s3 hc
    exact (F p (by omega) (fun h h3 => by rw [h2 h h3, q2 h h3])).2
  obtain ⟨f, w', L3, z, l1, l2, b1, b2, w1, w2, w3, Dn, T, TW, kp, nt⟩ := Mi.tick A M ld
  obtain ⟨z', p1, p2, p3⟩ := L0.next hk l1 l2 (y := tickX x 3) hn (by show x.N.length ≤ _; omega) rfl
  have cast : ((r + 1 : Nat) : Int) = (r : Int) + 1 := by omega
  have hzs := TW.sp
  have hzl : ∀ h, h < 3 → x.lost h ≤ z.lost h := fun h h3 => by rw [A.lost h h3, l2.lost h h3]; exact TW.lost h h3
  refine ⟨z, ⟨rfl, fun d d3 => rfl, fun d d3 => ?_, fun d _ => tickX_wl x S.wl d, fun d d3 => ?_, fun d _ => tickX_same x d, l1, p2⟩, fun hne => ⟨w', L3, l2, by rw [cast]; exact b1, by omega, fun h h3 => by have := s2 h h3; have := hlos h h3; have := hzl h h3; omega, fun hc => by omega, fun p a b => ?_⟩, fun h1 h2 => ⟨w', L3, l2, by rw [cast]; exact b2 h1 h2, by omega, fun h h3 => by have := s2 h h3; have := h2 h h3; omega, fun hc => ?_, fun p a b => ?_⟩⟩
  · rw [tickX_H x d d (Nat.le_refl _)]
    obtain ⟨f1, f2, f3⟩ := f d d3
    have b := B.b d d3
    have o := (B.ok d d3).1
    have ra := A.inv.ra d d3
    have e := A.H d d3
    refine ⟨o, by omega, b.2.1, ⟨o.addr, ?_, o.lost, ?_, o.pa, o.c, o.t⟩, f1, f3⟩
    · have := o.clock; show 0 ≤ (x.H d).clock + 1 ∧ (x.H d).clock + 1 ≤ _; omega
    · show (x.H d).p.tick.Ok
      rw [e] at o ⊢
      exact RA.ok_tick o.p ra
  · have := tickX_sp x S.spilt (fun d d3 => (f d d3).2.2) d d3; omega
  · exfalso
    apply hne
    refine ⟨by omega, fun h h3 => ?_⟩
    have := s2 h h3; have := hlos h h3; have := hzl h h3; have := b h h3; omega
  · obtain ⟨q1, q2⟩ := s3 (by omega)
    exact ⟨by omega, fun h h3 => by rw [h2 h h3, q2 h h3]⟩
  · have e2 : ∀ h, h < 3 → x.lost h = l0 h := fun h h3 => by have := s2 h h3; have := hlos h h3; have := hzl h h3; have := b h h3; omega
    obtain ⟨hc, FM⟩ := F p (by omega) e2
    refine ⟨by omega, ?_⟩
    rw [cast]
    exact FM.tick A l2 T TW kp (nt p hc (by omega) (fun h h3 => by have := s2 h h3; have := hlos h h3; have := e2 h h3; omega)) hR (by omega)
/-- a settle's end -/
theorem JBF.done (h : JBF P Ts s0 l0 r c k x) (hr : r = 120) : LF (P ∧ x.spilt = s0 ∧ ∀ h, h < 3 → x.lost h = l0 h) x k ∧ (P → x.spilt = s0 → (∀ h, h < 3 → x.lost h = l0 h) → nSettled x.N) := by
  obtain ⟨w, L, A, B, s1, s2, s3, F⟩ := h
  subst hr
  refine ⟨⟨w, L, A, fun ⟨p, a, b⟩ => ?_⟩, fun p a b => ?_⟩
  · obtain ⟨hc, FB⟩ := F p a b
    exact FB.done A p (by decide) hc B
  · obtain ⟨hc, _⟩ := F p a b
    exact Bd.settled A B (by omega)
/-! ### between two steps of the script -/
theorem LF.nofail (h : LF P x k) (p : P) : nNoneFailed x.N = true := by
  obtain ⟨w, L, A, F⟩ := h
  obtain ⟨Af, F, _⟩ := F p
  rw [A.N]
  unfold nNoneFailed
  rw [List.all_eq_true]
  intro y hy
  unfold LL at hy
  obtain ⟨i, hi, rfl⟩ := List.mem_map.1 hy
  have hi := List.mem_range.1 hi
  have nf := F.nf i hi
  unfold Ned.failed
  by_cases h4 : (L i).state = 4
  · rw [nf h4]; simp
  · simp [h4]
theorem LF.first : LF P Wrld.init 0 := ⟨_, _, Law.init, fun _ => ⟨[], ⟨fun v hv => absurd hv (Nat.not_lt_zero v), fun p hp => absurd hp (by simp), fun p hp => absurd hp (by simp), .idle (fun j hj => absurd hj (Nat.not_lt_zero j)) rfl rfl⟩, ⟨rfl, fun f hf => absurd hf (by simp [Wrld.init])⟩, fun s e c hs => absurd hs (Nat.not_lt_zero s)⟩⟩
/-- a call -/
theorem LF.callP (h : LF P x k) : ∃ w L, Law w L x (k : Int) ∧ CallP w L x k (fun z => LF (P ∧ Same x z) z (k + 1)) := by
  obtain ⟨w, L, A, F⟩ := h
  exact ⟨w, L, A, fun w' L3 z A3 C E => ⟨w', L3, A3, fun ⟨p, s, _⟩ => (F p).call A A3 C E s⟩⟩
theorem LF.stay (h : LF P x k) (hk : k ≤ 10900000000) : NextZ x fun z => LF (P ∧ Same x z) z (k + 1) := by
  obtain ⟨w, L, A, Z⟩ := h.callP
  exact A.stayZ hk Z
/-- what is delivered -/
theorem LF.del (h : LF P x k) (hk : k ≤ 10900000000) (i : Int) : DelP x i fun z => LF (P ∧ Same x z) z (k + 1) := by
  have L0 := h.law
  have hn := L0.nok (by omega)
  have hl := L0.nlen (by omega)
  obtain ⟨w, L, A, F⟩ := h
  refine ⟨fun hno => ⟨w, L, (A.rest i).mono (by omega), fun ⟨p, _⟩ => (F p).rest A hno⟩, fun raw d ht d3 h1 => ?_⟩
  by_cases hp : P
  · obtain ⟨a, w', L3, z, l1, l2, f⟩ := (F hp).del A (by omega) ht d3 h1
    obtain ⟨z', p1, p2, p3⟩ := L0.next hk l1 l2 (y := x.input i d raw) hn (by show x.N.length ≤ _; omega) rfl
    exact ⟨a.1, a.2, z, l1, p2, w', L3, l2, fun ⟨_, s1, s2⟩ => f s1 s2⟩
  · obtain ⟨a, _, b, w', L3, z, l1, l2⟩ := A.input (by omega) ht d3
    obtain ⟨z', p1, p2, p3⟩ := L0.next hk l1 l2 (y := x.input i d raw) hn (by show x.N.length ≤ _; omega) rfl
    exact ⟨a, b, z, l1, p2, w', L3, l2, fun ⟨p, _⟩ => absurd p hp⟩
end
end Go.Proofs.Qxb6500351aGreat
