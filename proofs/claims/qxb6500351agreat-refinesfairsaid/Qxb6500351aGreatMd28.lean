/- From the plain law to what the walks ask. -/
import Derived.Test.Qxb6500351aGreatMd27
set_option linter.unusedVariables false
set_option linter.unusedSimpArgs false
namespace Go.Proofs.Qxb6500351aGreat
open Go.Eng
def LawK (x : Wrld) (k : Nat) : Prop := ∃ w L, Law w L x (k : Int)
/-- behind an op: a look answers true -/
def NextZ (y : Wrld) (Z : Wrld → Prop) : Prop := ∃ z, Look y z ∧ LkOk y ∧ Z z
def NextK (y : Wrld) (k : Nat) : Prop := NextZ y fun z => LawK z (k + 1)
/-- what a call leaves behind is Z -/
def CallP (w : W) (L : Nat → Ned) (x : Wrld) (k : Nat) (Z : Wrld → Prop) : Prop := ∀ w' L3 z, Law w' L3 z ((k : Int) + 1) → CallW w L x w' L3 z → CallE w w' → Z z
theorem CallP.law (w : W) (L : Nat → Ned) (x : Wrld) (k : Nat) : CallP w L x k fun z => LawK z (k + 1) := fun w' L3 z A _ _ => ⟨w', L3, A⟩
section
variable {x y z : Wrld} {k : Nat} {Z : Wrld → Prop}
theorem LawK.mono {k' : Nat} (h : LawK x k) (e : k ≤ k') : LawK x k' := by obtain ⟨w, L, A⟩ := h; exact ⟨w, L, A.mono (by omega)⟩
theorem LawK.szs (h : LawK x k) (hk : k ≤ 11000000000) : Szs x := by obtain ⟨w, L, A⟩ := h; exact A.szs (by omega)
theorem LawK.hb (h : LawK x k) (hk : k ≤ 11000000000) : HBnd x := by
  obtain ⟨w, L, A⟩ := h
  exact ⟨fun i i3 => ⟨(A.hstOk (by omega) i3).1, A.infoOk i3⟩, fun i i3 => (A.hstOk (by omega) i3).2⟩
theorem LawK.nok (h : LawK x k) (hk : k ≤ 11000000000) : NOk x.N := by
  have S := h.szs hk
  obtain ⟨w, L, A⟩ := h
  have mem : ∀ y, y ∈ x.N → ∃ i, i < w.n ∧ y = L i := fun y hy => by
    have hN : x.N = LL L w.n := A.N
    rw [hN] at hy
    simp only [LL, List.mem_map, List.mem_range] at hy
    obtain ⟨i, hi, rfl⟩ := hy
    exact ⟨i, hi, rfl⟩
  refine ⟨fun y hy => ⟨S.peer y hy, fun hc => ?_⟩, fun y hy => ⟨?_, ?_⟩⟩
  · obtain ⟨i, hi, rfl⟩ := mem y hy
    have n := A.ni i hi
    have : (w.N i).client = false := by rw [← n.c.id.cl]; exact hc
    obtain ⟨p, _, h2, _⟩ := A.inv.kid i hi this
    rw [n.peer, h2]; omega
  · obtain ⟨i, hi, rfl⟩ := mem y hy
    have n := A.ni i hi
    have := (A.inv.ports i hi).1
    rw [n.c.id.rh]; omega
  · have := (S.sent y hy).2; omega
theorem LawK.nextZ (hx : LawK x k) (hk : k ≤ 10900000000) {w' : W} {L3 : Nat → Ned} (L : Look y z) (A : Law w' L3 z ((k : Int) + 1)) (hN : NOk y.N) (hNl : y.N.length ≤ 50000000100) (hr : y.ready = x.ready) (hz : Z z) : NextZ y Z := by
  have S := hx.szs (by omega)
  have h1 : LawK z (k + 1) := ⟨w', L3, A⟩
  refine ⟨z, L, ⟨hN, hNl, by rw [hr]; have := S.ready; omega, by rw [hr]; exact S.rh, ?_⟩, hz⟩
  have := (h1.hb (by omega)).ok
  rw [L.keeps.1] at this
  exact this
theorem NextZ.ok (h : NextZ y Z) : ∀ i, i < 3 → (y.H i).Ok ∧ InfoOk (y.H i) := by obtain ⟨z, _, l, _⟩ := h; exact l.ok
theorem NextK.ok (h : NextK y k) : ∀ i, i < 3 → (y.H i).Ok ∧ InfoOk (y.H i) := NextZ.ok h
theorem LawK.next (h : LawK x k) (hk : k ≤ 10900000000) {w' : W} {L3 : Nat → Ned} (L : Look y z) (A : Law w' L3 z ((k : Int) + 1)) (hN : NOk y.N) (hNl : y.N.length ≤ 50000000100) (hr : y.ready = x.ready) : NextK y k :=
  h.nextZ hk L A hN hNl hr ⟨w', L3, A⟩
theorem LawK.nlen (h : LawK x k) (hk : k ≤ 11000000000) : x.N.length ≤ 50000000000 := (h.szs hk).N
theorem Law.stayZ {w : W} {L : Nat → Ned} (A : Law w L x (k : Int)) (hk : k ≤ 10900000000) (hZ : CallP w L x k Z) : NextZ x Z := by
  obtain ⟨L3, z, a, b, c, d⟩ := A.stay
  exact LawK.nextZ ⟨w, L, A⟩ hk a b (LawK.nok ⟨w, L, A⟩ (by omega)) (by have := LawK.nlen ⟨w, L, A⟩ (by omega); omega) rfl (hZ w L3 z b c d)
theorem LawK.stay (h : LawK x k) (hk : k ≤ 10900000000) : NextK x k := by
  obtain ⟨w, L, A⟩ := h
  exact A.stayZ hk (CallP.law w L x k)
/-- what is delivered -/
theorem LawK.del (h : LawK x k) (hk : k ≤ 10900000000) (i : Int) : DelOk x i (fun z => LawK z (k + 1)) := by
  have hn := h.nok (by omega)
  have hl := h.nlen (by omega)
  have h0 := h
  obtain ⟨w, L, A⟩ := h
  refine ⟨⟨w, L, (A.rest i).mono (by omega)⟩, fun raw d ht d3 => ?_⟩
  obtain ⟨a, b, c, w', L3, z, l1, l2⟩ := A.input (by omega) ht d3
  obtain ⟨z', p1, p2, p3⟩ := h0.next hk l1 l2 (y := x.input i d raw) hn (by show x.N.length ≤ _; omega) rfl
  exact ⟨a, c, z', p1, p2, p3⟩
/-- the clock ticks -/
def tickX (x : Wrld) : Nat → Wrld
  | 0 => x.tick0
  | d + 1 => (tickX x d).tick1 d
theorem tickX_H (x : Wrld) : ∀ d j, d ≤ j → (tickX x d).H j = x.H j
  | 0, j, _ => rfl
  | d + 1, j, h => by
    show upA (tickX x d).H d _ j = _
    rw [upA_ne _ _ (by omega)]; exact tickX_H x d j (by omega)
theorem tickX_same (x : Wrld) : ∀ d, (tickX x d).N = x.N ∧ (tickX x d).dl = x.dl ∧ (tickX x d).seen = x.seen ∧ (tickX x d).ready = x.ready
  | 0 => ⟨rfl, rfl, rfl, rfl⟩
  | d + 1 => tickX_same x d
theorem tickX_wl (x : Wrld) (h : x.wr.length ≤ 64) : ∀ d, (tickX x d).wr.length ≤ 64
  | 0 => by show (wTick x.wr).length ≤ 64; unfold wTick; rw [List.length_map]; exact h
  | d + 1 => wPuts_len _ (tickX_wl x h d)
theorem tickX_sp (x : Wrld) (h : 0 ≤ x.spilt ∧ x.spilt ≤ 9000000000000) (hf : ∀ d, d < 3 → ((x.H d).tick0.tickF (x.H d).t.list).length ≤ 24) : ∀ d, d ≤ 3 → 0 ≤ (tickX x d).spilt ∧ (tickX x d).spilt ≤ 9000000000000 + 24 * d
  | 0, _ => by show 0 ≤ x.spilt ∧ x.spilt ≤ _; omega
  | d + 1, h3 => by
    have := tickX_sp x h hf d (by omega)
    have e := hf d (by omega)
    have b := wSpill_b (tickX x d).wr (((tickX x d).H d).tick0.tickF ((tickX x d).H d).t.list)
    rw [tickX_H x d d (Nat.le_refl _)] at b
    have e1 : (tickX x (d + 1)).spilt = (tickX x d).spilt + wSpill (tickX x d).wr ((x.H d).tick0.tickF (x.H d).t.list) := by
      show (tickX x d).spilt + wSpill (tickX x d).wr (((tickX x d).H d).tick0.tickF ((tickX x d).H d).t.list) = _
      rw [tickX_H x d d (Nat.le_refl _)]
    omega
theorem LawK.tick (h : LawK x k) (hk : k ≤ 10900000000) : ∃ z, TickOk x (tickX x) z ∧ LawK z (k + 1) := by
  have hn := h.nok (by omega)
  have hl := h.nlen (by omega)
  have S := h.szs (by omega)
  have B := h.hb (by omega)
  have h0 := h
  obtain ⟨w, L, A⟩ := h
  obtain ⟨f, w', L3, z, l1, l2⟩ := A.ticks
  obtain ⟨z', p1, p2, p3⟩ := h0.next hk l1 l2 (y := tickX x 3) hn (by show x.N.length ≤ _; omega) rfl
  refine ⟨z', ⟨rfl, fun d d3 => rfl, fun d d3 => ?_, fun d _ => tickX_wl x S.wl d, fun d d3 => ?_, fun d _ => tickX_same x d, p1, p2⟩, p3⟩
  · rw [tickX_H x d d (Nat.le_refl _)]
    obtain ⟨f1, f2, f3⟩ := f d d3
    have b := B.b d d3
    have o := (B.ok d d3).1
    have ra := A.inv.ra d d3
    have e := A.H d d3
    refine ⟨o, by omega, b.2.1, ⟨o.addr, ?_, o.lost, ?_, o.pa, o.c, o.t⟩, f1, f3⟩
    · have := o.clock; show 0 ≤ (x.H d).clock + 1 ∧ (x.H d).clock + 1 ≤ _; omega
    · show (x.H d).p.tick.Ok
      rw [e] at o ⊢
      exact RA.ok_tick o.p ra
  · have := tickX_sp x S.spilt (fun d d3 => (f d d3).2.2) d d3; omega
/-! ### calls -/
theorem LawK.kids (h : LawK x k) {c : Nat} (c3 : c < 3) (j : Nat) : -998 ≤ ((x.H c).t.rows j).kids := by
  obtain ⟨w, L, A⟩ := h
  have := (A.inv.hi c c3).k j
  rw [A.H c c3]; omega
theorem LawK.chk (h : LawK x k) {c : Nat} (c3 : c < 3) : (x.H c).ChkOk ∧ (x.H c).clock = x.ticks := by
  obtain ⟨L3, z, a, b, _⟩ := (Classical.choose_spec (Classical.choose_spec h)).stay
  obtain ⟨x1, x2, x3, c1, c2, c3', e⟩ := a.hosts
  obtain ⟨a1, _, _, _, a5, _⟩ := c1.keeps
  obtain ⟨b1, _, _, _, b5, _⟩ := c2.keeps
  have hc : c = 0 ∨ c = 1 ∨ c = 2 := by omega
  rcases hc with rfl | rfl | rfl
  · exact ⟨c1.chk, c1.clk⟩
  · have h1 := c2.chk; have h2 := c2.clk
    rw [a1] at h1 h2; rw [a5] at h2
    exact ⟨h1, h2⟩
  · have h1 := c3'.chk; have h2 := c3'.clk
    rw [b1, a1] at h1 h2; rw [b5, a5] at h2
    exact ⟨h1, h2⟩
theorem Law.listenZ {w : W} {L : Nat → Ned} (A : Law w L x (k : Int)) (hk : k ≤ 10900000000) {c : Nat} (c3 : c < 3) (p : Int) (hZ : CallP w L x k Z) :
    ((x.H c).t.listen p).2.1 = x.lisW c p ∧ (¬ ((x.H c).t.listen p).2.1 = 0 → ((x.H c).t.listen p).1 = 0) ∧
    (((x.H c).t.listen p).2.1 = 0 → x.top c < ((x.H c).t.listen p).1 ∧ ((upA x.H c { (x.H c) with t := ((x.H c).t.listen p).2.2 }) c).err ((x.H c).t.listen p).1 = 0 ∧ (((upA x.H c { (x.H c) with t := ((x.H c).t.listen p).2.2 }) c).ent ((x.H c).t.listen p).1).kind = 1 ∧ (((upA x.H c { (x.H c) with t := ((x.H c).t.listen p).2.2 }) c).ent ((x.H c).t.listen p).1).lPort = p) ∧
    NextZ { x with H := upA x.H c { (x.H c) with t := ((x.H c).t.listen p).2.2 } } Z := by
  have h0 : LawK x k := ⟨w, L, A⟩
  have hn := h0.nok (by omega)
  have hl := h0.nlen (by omega)
  obtain ⟨a, b, d, w', L3, z, l1, l2, l3, l4⟩ := A.listen (by omega) c3 p
  rw [upA_at]
  exact ⟨a, b, d, h0.nextZ hk l1 l2 hn (by show x.N.length ≤ _; omega) rfl (hZ w' L3 z l2 l3 l4)⟩
theorem LawK.listen (h : LawK x k) (hk : k ≤ 10900000000) {c : Nat} (c3 : c < 3) (p : Int) :
    ((x.H c).t.listen p).2.1 = x.lisW c p ∧ (¬ ((x.H c).t.listen p).2.1 = 0 → ((x.H c).t.listen p).1 = 0) ∧
    (((x.H c).t.listen p).2.1 = 0 → x.top c < ((x.H c).t.listen p).1 ∧ ((upA x.H c { (x.H c) with t := ((x.H c).t.listen p).2.2 }) c).err ((x.H c).t.listen p).1 = 0 ∧ (((upA x.H c { (x.H c) with t := ((x.H c).t.listen p).2.2 }) c).ent ((x.H c).t.listen p).1).kind = 1 ∧ (((upA x.H c { (x.H c) with t := ((x.H c).t.listen p).2.2 }) c).ent ((x.H c).t.listen p).1).lPort = p) ∧
    NextK { x with H := upA x.H c { (x.H c) with t := ((x.H c).t.listen p).2.2 } } k := by
  obtain ⟨w, L, A⟩ := h
  exact A.listenZ hk c3 p (CallP.law w L x k)
theorem Law.acceptZ {w : W} {L : Nat → Ned} (A : Law w L x (k : Int)) (hk : k ≤ 10900000000) {c : Nat} (c3 : c < 3) (p : Int) (hZ : CallP w L x k Z) :
    ((x.H c).t.accept p).2.1 = (x.accW c p).1 ∧ ((x.H c).t.accept p).1 = (x.accW c p).2 ∧ (∀ r, r ∈ x.ready → r.sd ≠ 0) ∧ NextZ { x with H := upA x.H c { (x.H c) with t := ((x.H c).t.accept p).2.2 } } Z := by
  have h0 : LawK x k := ⟨w, L, A⟩
  have hn := h0.nok (by omega)
  have hl := h0.nlen (by omega)
  obtain ⟨a, b, d, w', L3, z, l1, l2, l3, l4⟩ := A.accept c3 p
  exact ⟨a, b, d, h0.nextZ hk l1 l2 hn (by show x.N.length ≤ _; omega) rfl (hZ w' L3 z l2 l3 l4)⟩
theorem LawK.accept (h : LawK x k) (hk : k ≤ 10900000000) {c : Nat} (c3 : c < 3) (p : Int) :
    ((x.H c).t.accept p).2.1 = (x.accW c p).1 ∧ ((x.H c).t.accept p).1 = (x.accW c p).2 ∧ (∀ r, r ∈ x.ready → r.sd ≠ 0) ∧ NextK { x with H := upA x.H c { (x.H c) with t := ((x.H c).t.accept p).2.2 } } k := by
  obtain ⟨w, L, A⟩ := h
  exact A.acceptZ hk c3 p (CallP.law w L x k)
theorem NOk.conn {l : List Ned} (h : NOk l) (hs : Int) (en : En) (ci : Ci) (he : 0 ≤ en.rHost ∧ en.rHost < 256) : NOk (nConn l hs en ci) ∧ (nConn l hs en ci).length ≤ l.length + 1 := by
  unfold nConn
  split
  · refine ⟨⟨fun y hy => ?_, fun y hy => ?_⟩, by rw [List.length_append, List.length_singleton]; omega⟩
    · rw [List.length_append, List.length_singleton]
      rcases List.mem_append.1 hy with q | q
      · have := h.1 y q; exact ⟨by omega, this.2⟩
      · rw [List.mem_singleton] at q; subst q
        exact ⟨by show (-1 : Int) < _; omega, fun z => by cases z⟩
    · rcases List.mem_append.1 hy with q | q
      · exact h.2 y q
      · rw [List.mem_singleton] at q; subst q
        exact ⟨he, by show ([] : List Int).length ≤ _; simp⟩
  · exact ⟨h, by omega⟩
theorem Law.connectZ {w : W} {L : Nat → Ned} (A : Law w L x (k : Int)) (hk : k ≤ 10900000000) {c : Nat} (c3 : c < 3) (rh rp : Int) (hZ : CallP w L x k Z) (hB : ∀ w' L3 z, Law w' L3 z ((k : Int) + 1) → CallW w L x w' L3 z → BornC w w' c rh rp → Z z) :
    (((x.H c).t.connect rh rp).2.1 = 0 → (((x.H c).t.connect rh rp).2.2.get ((x.H c).t.connect rh rp).1).2 = 0 ∧ (0 ≤ ((x.H c).conEn rh rp).slot ∧ ((x.H c).conEn rh rp).slot < 4) ∧ ((x.H c).c ((x.H c).conEn rh rp).slot.toNat).x.st = 0) ∧
    ((x.H c).t.connect rh rp).2.1 = x.conW c rh rp ∧ (¬ ((x.H c).t.connect rh rp).2.1 = 0 → (x.H c).conS rh rp = 0) ∧ (¬ ((x.H c).t.connect rh rp).2.1 = 0 → (x.H c).conH rh rp = x.H c) ∧
    (((x.H c).t.connect rh rp).2.1 = 0 → ConW x c rh rp ((x.H c).conS rh rp) ((upA x.H c ((x.H c).conH rh rp)) c)) ∧ ((x.H c).conF rh rp).length ≤ 24 ∧ (¬ ((x.H c).t.connect rh rp).2.1 = 0 → NextZ x Z) ∧
    (((x.H c).t.connect rh rp).2.1 = 0 → NextZ (({ x with H := upA x.H c ((x.H c).conH rh rp), N := nConn x.N c (((upA x.H c ((x.H c).conH rh rp)) c).ent ((x.H c).conS rh rp)) (((upA x.H c ((x.H c).conH rh rp)) c).infoC ((x.H c).conS rh rp)) } : Wrld).put c ((x.H c).conF rh rp)) Z) ∧
    ∀ i, i < 3 → ((upA x.H c ((x.H c).conH rh rp)) i).Ok ∧ InfoOk ((upA x.H c ((x.H c).conH rh rp)) i) := by
  have h0 : LawK x k := ⟨w, L, A⟩
  have hn := h0.nok (by omega)
  have hl := h0.nlen (by omega)
  have hst := A.stayZ hk hZ
  have hbn := h0.hb (by omega)
  obtain ⟨a, b, d⟩ := A.connect (by omega) c3 rh rp
  rw [upA_at]
  by_cases e : ((x.H c).t.connect rh rp).2.1 = 0
  · have es : (x.H c).conS rh rp = ((x.H c).t.connect rh rp).1 := by unfold Hst.conS; rw [if_pos e]
    rw [es]
    obtain ⟨C, w', L3, z, l1, l2, l3, l4⟩ := d e
    have hrh : (((x.H c).conH rh rp).ent ((x.H c).t.connect rh rp).1).rHost = rh := C.hrh
    have hW : x.conW c rh rp = 0 := by rw [← a]; exact e
    have hr : 0 ≤ rh ∧ rh < 256 := by
      unfold Wrld.conW at hW
      split at hW
      · exact absurd hW (by decide)
      · omega
    obtain ⟨q1, q2⟩ := hn.conn c (((x.H c).conH rh rp).ent ((x.H c).t.connect rh rp).1) (((x.H c).conH rh rp).infoC ((x.H c).t.connect rh rp).1) (by rw [hrh]; exact hr)
    have nx := h0.nextZ hk l1 l2 (y := x.con c rh rp) q1 (by show (nConn _ _ _ _).length ≤ _; omega) rfl (hB w' L3 z l2 l3 l4)
    exact ⟨fun _ => C.get, a, fun k => absurd e k, fun k => absurd e k, fun _ => ⟨C.top, C.err, C.kind, C.par, C.hrh, C.hrp, C.hlp, C.tup, C.can⟩, C.cn.2, fun k => absurd e k, fun _ => nx, nx.ok⟩
  · obtain ⟨b1, b2, _⟩ := b e
    refine ⟨fun k => absurd k e, a, fun _ => by unfold Hst.conS; rw [if_neg e], fun _ => b2, fun k => absurd k e, by unfold Hst.conF; rw [if_pos e]; exact Nat.zero_le _, fun _ => hst, fun k => absurd k e, ?_⟩
    rw [b2, upA_self]; exact hbn.ok
theorem LawK.connect (h : LawK x k) (hk : k ≤ 10900000000) {c : Nat} (c3 : c < 3) (rh rp : Int) :
    (((x.H c).t.connect rh rp).2.1 = 0 → (((x.H c).t.connect rh rp).2.2.get ((x.H c).t.connect rh rp).1).2 = 0 ∧ (0 ≤ ((x.H c).conEn rh rp).slot ∧ ((x.H c).conEn rh rp).slot < 4) ∧ ((x.H c).c ((x.H c).conEn rh rp).slot.toNat).x.st = 0) ∧
    ((x.H c).t.connect rh rp).2.1 = x.conW c rh rp ∧ (¬ ((x.H c).t.connect rh rp).2.1 = 0 → (x.H c).conS rh rp = 0) ∧ (¬ ((x.H c).t.connect rh rp).2.1 = 0 → (x.H c).conH rh rp = x.H c) ∧
    (((x.H c).t.connect rh rp).2.1 = 0 → ConW x c rh rp ((x.H c).conS rh rp) ((upA x.H c ((x.H c).conH rh rp)) c)) ∧ ((x.H c).conF rh rp).length ≤ 24 ∧ (¬ ((x.H c).t.connect rh rp).2.1 = 0 → NextK x k) ∧
    (((x.H c).t.connect rh rp).2.1 = 0 → NextK (({ x with H := upA x.H c ((x.H c).conH rh rp), N := nConn x.N c (((upA x.H c ((x.H c).conH rh rp)) c).ent ((x.H c).conS rh rp)) (((upA x.H c ((x.H c).conH rh rp)) c).infoC ((x.H c).conS rh rp)) } : Wrld).put c ((x.H c).conF rh rp)) k) ∧
    ∀ i, i < 3 → ((upA x.H c ((x.H c).conH rh rp)) i).Ok ∧ InfoOk ((upA x.H c ((x.H c).conH rh rp)) i) := by
  obtain ⟨w, L, A⟩ := h
  exact A.connectZ hk c3 rh rp (CallP.law w L x k) (fun w' L3 z A' _ _ => ⟨w', L3, A'⟩)
theorem Sb.putN_le16 {c : Conn} (ok : c.Ok) (l : List Int) : (c.send l).2.1 ≤ 1000 := by
  have h1 := ok.s.sent0
  have h2 := ok.s.sentc
  have h3 := ok.s.count
  unfold Conn.send
  repeat' split
  all_goals first
    | (show (0 : Int) ≤ 1000; decide)
    | (dsimp only; unfold Sb.putN least; omega)
theorem recv_bytes {c : Conn} (ok : c.Ok) (mx : Int) : Bytes (c.recv mx).2.1 ∧ (c.recv mx).2.1.length ≤ 1000 := by
  have h1 := ok.r.av1
  have z : Bytes ([] : List Int) ∧ ([] : List Int).length ≤ 1000 := ⟨(fun y hy => nomatch hy), Nat.zero_le _⟩
  unfold Conn.recv
  repeat' split
  all_goals first
    | exact z
    | (refine ⟨Rb.first_b ok.r _, ?_⟩
       have := Rb.readN_b ok.r mx
       have h2 : ((c.r.first (c.r.readN mx)).length : Int) = c.r.readN mx := by rw [Rb.first_len]; omega
       dsimp only
       omega)
theorem Law.sendZ {w : W} {L : Nat → Ned} (A : Law w L x (k : Int)) (hk : k ≤ 10900000000) {c : Nat} (c3 : c < 3) (sd : Int) {d : List Int} (hd : Bytes d) (hZ : CallP w L x k Z) :
    ((x.H c).oursB sd = true → 0 ≤ ((x.H c).ent sd).slot ∧ ((x.H c).ent sd).slot < 4) ∧ (x.H c).sendE sd d = (x.sendW c sd d.length).2 ∧ (x.H c).sndN sd d = (x.sendW c sd d.length).1 ∧ ((x.H c).sendE sd d = 0 → nTook x.N (nFind x.N c sd) ((x.H c).sndN sd d) d = true) ∧ ((x.H c).sndF sd d).length ≤ 24 ∧ (x.H c).sndN sd d ≤ 1000 ∧ (¬ (x.H c).sendE sd d = 0 → NextZ x Z) ∧
    ((x.H c).sendE sd d = 0 → NextZ (({ x with H := upA x.H c ((x.H c).sndH sd d), N := nTaken x.N (nFind x.N c sd) ((x.H c).sndN sd d) d } : Wrld).put c ((x.H c).sndF sd d)) Z) := by
  have h0 : LawK x k := ⟨w, L, A⟩
  have hn := h0.nok (by omega)
  have hl := h0.nlen (by omega)
  have hst := A.stayZ hk hZ
  have hbn := h0.hb (by omega)
  obtain ⟨a, b, e0, e1⟩ := A.send c3 sd hd
  by_cases e : (x.H c).sendE sd d = 0
  · have eN : (x.H c).sndN sd d = (((x.H c).cn sd).send d).2.1 := if_pos e
    have eF : (x.H c).sndF sd d = _ := if_pos e
    have eH : (x.H c).sndH sd d = _ := if_pos e
    rw [eN, eF, eH]
    obtain ⟨p1, p2, p3, w', L3, z, l1, l2, l3, l4⟩ := e1 e
    have q := hn.upd (nFind x.N c sd) (f := fun y => { y with sent := y.sent ++ d.take (((x.H c).cn sd).send d).2.1.toNat }) (fun y hy => ⟨rfl, rfl, rfl, (hn.2 y hy).2⟩)
    refine ⟨a, b, p1, fun _ => p2, p3.2, Sb.putN_le16 ((hbn.ok c c3).1.c _) d, fun k => absurd e k, fun _ => ?_⟩
    have q2 : NOk (nTaken x.N (nFind x.N c sd) (((x.H c).cn sd).send d).2.1 d) ∧ (nTaken x.N (nFind x.N c sd) (((x.H c).cn sd).send d).2.1 d).length = x.N.length := by
      unfold nTaken
      by_cases ht : nTook x.N (nFind x.N c sd) (((x.H c).cn sd).send d).2.1 d = true
      · rw [if_pos ht]; exact q
      · rw [if_neg ht]; exact ⟨hn, rfl⟩
    exact h0.nextZ hk l1 l2 (y := x.send c sd d) q2.1 (by show (nTaken _ _ _ _).length ≤ _; rw [q2.2]; omega) rfl (hZ w' L3 z l2 l3 l4)
  · have eN : (x.H c).sndN sd d = 0 := if_neg e
    have eF : (x.H c).sndF sd d = [] := if_neg e
    rw [eN, eF]
    exact ⟨a, b, (e0 e).1.symm, fun k => absurd k e, Nat.zero_le _, by decide, fun _ => hst, fun k => absurd k e⟩
theorem LawK.send (h : LawK x k) (hk : k ≤ 10900000000) {c : Nat} (c3 : c < 3) (sd : Int) {d : List Int} (hd : Bytes d) :
    ((x.H c).oursB sd = true → 0 ≤ ((x.H c).ent sd).slot ∧ ((x.H c).ent sd).slot < 4) ∧ (x.H c).sendE sd d = (x.sendW c sd d.length).2 ∧ (x.H c).sndN sd d = (x.sendW c sd d.length).1 ∧ ((x.H c).sendE sd d = 0 → nTook x.N (nFind x.N c sd) ((x.H c).sndN sd d) d = true) ∧ ((x.H c).sndF sd d).length ≤ 24 ∧ (x.H c).sndN sd d ≤ 1000 ∧ (¬ (x.H c).sendE sd d = 0 → NextK x k) ∧
    ((x.H c).sendE sd d = 0 → NextK (({ x with H := upA x.H c ((x.H c).sndH sd d), N := nTaken x.N (nFind x.N c sd) ((x.H c).sndN sd d) d } : Wrld).put c ((x.H c).sndF sd d)) k) := by
  obtain ⟨w, L, A⟩ := h
  exact A.sendZ hk c3 sd hd (CallP.law w L x k)
theorem Law.recvZ {w : W} {L : Nat → Ned} (A : Law w L x (k : Int)) (hk : k ≤ 10900000000) {c : Nat} (c3 : c < 3) (sd mx : Int) (hZ : CallP w L x k Z) :
    ((x.H c).oursB sd = true → ((x.H c).cn sd).x.st = 4 → ((x.H c).cn sd).x.why = 0 → ((x.H c).cn sd).x.peerFin = true) ∧ ((x.H c).oursB sd = true → 0 ≤ ((x.H c).ent sd).slot ∧ ((x.H c).ent sd).slot < 4) ∧ (Bytes ((x.H c).rcvB sd mx) ∧ ((x.H c).rcvB sd mx).length ≤ 1000) ∧ (x.H c).recvE sd mx = (x.recvW c sd mx).2 ∧ (((x.H c).rcvB sd mx).length : Int) = (x.recvW c sd mx).1 ∧
    ((x.H c).recvE sd mx = 16 → nEOF x.N (nFind x.N c sd) = true) ∧ ((x.H c).recvE sd mx = 0 → nReadB x.N (nFind x.N c sd) ((x.H c).rcvB sd mx) = true) ∧ ((x.H c).rcvF sd mx).length ≤ 24 ∧ (¬ (x.H c).recvE sd mx = 0 → NextZ x Z) ∧
    ((x.H c).recvE sd mx = 0 → NextZ (({ x with H := upA x.H c ((x.H c).rcvH sd mx), N := nReadL x.N (nFind x.N c sd) ((x.H c).rcvB sd mx) } : Wrld).put c ((x.H c).rcvF sd mx)) Z) := by
  have h0 : LawK x k := ⟨w, L, A⟩
  have hn := h0.nok (by omega)
  have hl := h0.nlen (by omega)
  have hst := A.stayZ hk hZ
  have hbn := h0.hb (by omega)
  have S := h0.szs (by omega)
  obtain ⟨a, b, d, e0, e1⟩ := A.recv c3 sd mx
  by_cases e : (x.H c).recvE sd mx = 0
  · have eB : (x.H c).rcvB sd mx = (((x.H c).cn sd).recv mx).2.1 := if_pos e
    have eF : (x.H c).rcvF sd mx = _ := if_pos e
    have eH : (x.H c).rcvH sd mx = _ := if_pos e
    rw [eB, eF, eH]
    obtain ⟨p1, p2, p3, w', L3, z, l1, l2, l3, l4⟩ := e1 e
    have hrb := recv_bytes ((hbn.ok c c3).1.c ((x.H c).ent sd).slot.toNat) mx
    have q := hn.upd (nFind x.N c sd) (f := fun y => { y with rcvd := y.rcvd ++ (((x.H c).cn sd).recv mx).2.1 }) (fun y hy => ⟨rfl, rfl, rfl, by
      have := (S.sent y hy).2
      have h2 := hrb.2
      show (y.rcvd ++ (((x.H c).cn sd).recv mx).2.1).length ≤ _
      rw [List.length_append]
      have h3 : (((x.H c).cn sd).recv mx).2.1.length ≤ 1000 := h2
      omega⟩)
    exact ⟨a, b, hrb, d, p1, fun k => by rw [k] at e; exact absurd e (by decide), fun _ => p2, p3.2, fun k => absurd e k, fun _ => h0.nextZ hk l1 l2 (y := x.recv c sd mx) q.1 (by show (nReadL _ _ _).length ≤ _; unfold nReadL; rw [q.2]; omega) rfl (hZ w' L3 z l2 l3 l4)⟩
  · have eB : (x.H c).rcvB sd mx = [] := if_neg e
    have eF : (x.H c).rcvF sd mx = [] := if_neg e
    rw [eB, eF]
    obtain ⟨p1, p2, _⟩ := e0 e
    exact ⟨a, b, ⟨(fun y hy => nomatch hy), Nat.zero_le _⟩, d, p1.symm, p2, fun k => absurd k e, Nat.zero_le _, fun _ => hst, fun k => absurd k e⟩
theorem LawK.recv (h : LawK x k) (hk : k ≤ 10900000000) {c : Nat} (c3 : c < 3) (sd mx : Int) :
    ((x.H c).oursB sd = true → ((x.H c).cn sd).x.st = 4 → ((x.H c).cn sd).x.why = 0 → ((x.H c).cn sd).x.peerFin = true) ∧ ((x.H c).oursB sd = true → 0 ≤ ((x.H c).ent sd).slot ∧ ((x.H c).ent sd).slot < 4) ∧ (Bytes ((x.H c).rcvB sd mx) ∧ ((x.H c).rcvB sd mx).length ≤ 1000) ∧ (x.H c).recvE sd mx = (x.recvW c sd mx).2 ∧ (((x.H c).rcvB sd mx).length : Int) = (x.recvW c sd mx).1 ∧
    ((x.H c).recvE sd mx = 16 → nEOF x.N (nFind x.N c sd) = true) ∧ ((x.H c).recvE sd mx = 0 → nReadB x.N (nFind x.N c sd) ((x.H c).rcvB sd mx) = true) ∧ ((x.H c).rcvF sd mx).length ≤ 24 ∧ (¬ (x.H c).recvE sd mx = 0 → NextK x k) ∧
    ((x.H c).recvE sd mx = 0 → NextK (({ x with H := upA x.H c ((x.H c).rcvH sd mx), N := nReadL x.N (nFind x.N c sd) ((x.H c).rcvB sd mx) } : Wrld).put c ((x.H c).rcvF sd mx)) k) := by
  obtain ⟨w, L, A⟩ := h
  exact A.recvZ hk c3 sd mx (CallP.law w L x k)
end
end Go.Proofs.Qxb6500351aGreat
