/- THE PLAIN LAW of the whole network, part 16: the caller's calls on a connection. No Go in sight. -/
import Derived.Test.Qxb6500351aGreatPl33
set_option linter.unusedVariables false
set_option linter.unusedSimpArgs false
namespace Go.Proofs.Qxb6500351aGreat
open Go.Eng
theorem put_host {w : W} {i : Nat} {e0 : En} {c1 : Conn} {t' : Tb} {q' : Int → List Int} {L : List (Seg × Kd)} {g1 : Gh} {x1 : Ned} (id : SameId (w.N i) x1) : (w.put i e0 c1 t' q' L g1 x1).host i = (w.put i e0 c1 t' q' L g1 x1).H (w.N i).host.toNat := by
  unfold W.host; rw [put_N, id.host]
/-- what a pump leaves alone -/
structure PumpK (c d : Conn) : Prop where
  ret : d.x.retries = c.x.retries
  why : d.x.why = c.x.why
  quiet : d.x.quiet = c.x.quiet
  tm : 0 < c.x.timer → d.x.timer = c.x.timer
theorem PumpK.refl (c : Conn) : PumpK c c := ⟨rfl, rfl, rfl, fun _ => rfl⟩
theorem PumpK.trans {c d e : Conn} (a : PumpK c d) (b : PumpK d e) : PumpK c e := ⟨b.ret.trans a.ret, b.why.trans a.why, b.quiet.trans a.quiet, fun h => (b.tm (by rw [a.tm h]; exact h)).trans (a.tm h)⟩
theorem PumpK.arm {c d : Conn} {x : Cs} (hd : d.x = x.arm) (h1 : x.retries = c.x.retries) (h2 : x.why = c.x.why) (h3 : x.quiet = c.x.quiet) (h4 : x.timer = c.x.timer) : PumpK c d := by
  have : x.arm.retries = x.retries ∧ x.arm.why = x.why ∧ x.arm.quiet = x.quiet ∧ (0 < x.timer → x.arm.timer = x.timer) := by
    unfold Cs.arm; split
    · rename_i h; exact ⟨rfl, rfl, rfl, fun k => by omega⟩
    · exact ⟨rfl, rfl, rfl, fun _ => rfl⟩
  obtain ⟨a, b, e, f⟩ := this
  exact ⟨by rw [hd, a, h1], by rw [hd, b, h2], by rw [hd, e, h3], fun k => by rw [hd, f (by omega), h4]⟩
theorem Conn.pumpF_k : ∀ (f : Nat) (c : Conn), PumpK c (Conn.pumpF f c).1
  | 0, c => PumpK.refl c
  | f + 1, c => by
    unfold Conn.pumpF
    split
    · exact PumpK.refl c
    · exact PumpK.trans (PumpK.arm (d := c.pumpC) rfl rfl rfl rfl rfl) (Conn.pumpF_k f c.pumpC)
theorem Conn.pump_k (c : Conn) : PumpK c c.pump.1 := by
  unfold Conn.pump
  split
  · refine PumpK.trans (d := c.pumpL.1) (Conn.pumpF_k c.x.credit.toNat c) ?_
    show PumpK c.pumpL.1 c.pumpL.1.pumpE.1
    unfold Conn.pumpE
    split
    · exact PumpK.arm rfl rfl rfl rfl rfl
    · exact PumpK.refl _
  · exact PumpK.refl c
/-- what a caller's call leaves alone -/
structure RowX (w w' : W) (i : Nat) : Prop where
  row : ∃ e c c', w.row i e c ∧ w'.row i e c' ∧ (c.x.st = 3 ∨ c.x.st = 4) ∧ c'.x.st = c.x.st ∧ PumpK c c' ∧ ∀ Dn, w'.D = w.D ++ Dn → ∀ r, r ∈ Dn → c.x.st = 3 ∧ r.g.flags / 8 = 0
  pe : (w'.N i).peer = (w.N i).peer
  iss : (w'.G i).iss = (w.G i).iss
  u : (w'.G i).u = (w.G i).u
  fa : (w'.G i).fa = (w.G i).fa
  pf : (w'.G i).pf = (w.G i).pf
  r : (w'.G i).r = (w.G i).r
  x : (w.G i).f = true → (w'.G i).X = (w.G i).X ∧ (w'.N i).sent = (w.N i).sent
  q : w'.q = w.q
  nx : (w'.G i).f = true → (w'.G i).x = (w'.N i).sent.length
theorem Outs.fl {l : List Seg} {g : Gh} {S : List Int} {piss : Int} (h : Outs l g S piss) : ∀ s, s ∈ l → s.flags / 8 = 0 := fun s hs => by
  obtain ⟨k, v, _⟩ := h s hs
  rcases v.flags with q | q
  · rw [q]; rfl
  · rw [q.1]; rfl
section
variable {w : W} {h : Nat} {sd : Int} {e0 : En}
/-- the caller's own connection -/
theorem Hst.ours_of {H : Hst} {sd : Int} (h : H.oursB sd = true) : ∃ e, H.t.at sd = some e ∧ e.kind = 2 ∧ e.parent = 0 := by
  unfold Hst.oursB at h
  rw [decide_eq_true_eq] at h
  obtain ⟨h1, h2, h3⟩ := h
  cases ha : H.t.at sd with
  | none => rw [ent_no ha] at h1; exact absurd h1 (by decide)
  | some e =>
    obtain ⟨a, b⟩ := ent_of ha
    rw [a] at h2 h3
    exact ⟨e, rfl, h2, h3⟩
/-- a call on end i that leaves the table alone -/
theorem Inv.call (I : Inv w) (sy : Syn w) (h3 : h < 3) (he : (w.H h).t.at sd = some e0) {i : Nat} (i1 : i < w.n) (i2 : (w.N i).host = (h : Int)) (i3 : (w.N i).sd = sd) (i4 : w.host i = w.H h) (i5 : (w.N i).host.toNat = h) {c0 c1 : Conn} (r : w.row i e0 c0) {L : List (Seg × Kd)} {g1 : Gh} {x1 : Ned} {k : Nat} (hk : L.length ≤ k)
    (I' : Inv (w.put i e0 c1 (w.host i).t (w.q (w.N i).host.toNat) L g1 x1)) (id : SameId (w.N i) x1) (wo : x1.wasOpen = (w.N i).wasOpen) (pe : x1.peer = (w.N i).peer) (o3 : c1.x.st = 3 → c0.x.st = 3) (may : mayStep c0.x.st c1.x.st = true) (why : c0.x.st = 4 → c1.x.why = c0.x.why ∨ (c0.x.why = 0 ∧ c1.x.why = 20)) (gle : (w.G i).Le g1) :
    ∃ w', Out w w' h ((w.H h).aft sd c1 (L.map Prod.fst)) ((w.H h).emitF e0 (L.map Prod.fst)) k ∧ RowEff w w' i ∧ w'.N i = x1 ∧ w'.G i = g1 ∧ w'.row i e0 c1 ∧ w'.q = w.q ∧ ∀ Dn, w'.D = w.D ++ Dn → ∀ r, r ∈ Dn → ∃ s, s ∈ L.map Prod.fst ∧ r.g = stamp e0 s := by
  obtain ⟨en1, er1⟩ := ent_of he
  have T := Tab.same I i1 r
  obtain ⟨r1, r2⟩ := put_row (c1 := c1) (L := L) (g1 := g1) (q' := w.q (w.N i).host.toNat) I i1 r T.at_ T.sim id
  have hHh : (w.put i e0 c1 (w.host i).t (w.q (w.N i).host.toNat) L g1 x1).H h = (w.H h).aft sd c1 (L.map Prod.fst) := by
    have e1 : (w.put i e0 c1 (w.host i).t (w.q (w.N i).host.toNat) L g1 x1).H h = { (w.host i).emitH e0 (L.map Prod.fst) with c := upA (w.host i).c e0.slot.toNat c1, t := (w.host i).t } := by
      rw [← i5]; exact upA_at ..
    rw [e1, i4]; unfold Hst.aft; rw [en1]
  have hout := Inv.out (w' := w.put i e0 c1 (w.host i).t (w.q (w.N i).host.toNat) L g1 x1) I' sy h3 I (e := e0) (L := L) (k := k) hk (by rw [hHh]; unfold Hst.aft; rw [en1]) (by rw [hHh]; unfold Hst.aft; rw [en1]) (by rw [hHh]; exact Hst.aft_clock _ _ _ _) (fun j hj => upA_ne _ _ (by rw [i5]; exact hj)) (fun j hj => upA_ne _ _ (by rw [i5]; exact hj)) rfl (by show w.D ++ emitR w.now e0 (w.host i) (w.M (w.host i).addr) L = _; rw [i4]) (fun j hj => by
    by_cases hji : j = i
    · subst hji; exact put_tk
    · rw [put_tkn hji]; exact sy.tk j hj) (by
    have e1 : (w.put i e0 c1 (w.host i).t (w.q (w.N i).host.toNat) L g1 x1).q h = w.q h := by rw [← i5]; exact upA_at ..
    rw [e1]; exact QStep.refl _)
  rw [hHh] at hout
  have hNi : (w.put i e0 c1 (w.host i).t (w.q (w.N i).host.toNat) L g1 x1).N i = x1 := put_N
  have hw3 : c1.x.st = 3 → (w.N i).wasOpen = true := fun h3' => by
    have h0 := o3 h3'
    cases I.sta i i1 e0 c0 r with
    | syn cl pe o => have := o.st; omega
    | srv p cl pe o => have := o.st; omega
    | well p m rel wl wc wo b => exact wo
    | bad st => omega
  refine ⟨_, hout, ⟨i1, rfl, fun j hj => put_Nn hj, by rw [hNi]; exact id, ⟨e0, e0, c0, c1, r, r1, Sim.refl _, ?_, .inl (by rw [hNi]; exact pe), may, why, fun x => ?_⟩, r2, fun j hj => put_Gn hj, by rw [put_G]; exact gle, ?_⟩, hNi, put_G, r1, upA_same _ _ _ rfl, fun Dn hDn rc hr => ?_⟩
  · rw [hNi, wo]
    by_cases h3' : c1.x.st = 3
    · rw [hw3 h3']; rfl
    · simp [h3']
  · have hp : (w.put i e0 c1 (w.host i).t (w.q (w.N i).host.toNat) L g1 x1).host i = (w.H h).aft sd c1 (L.map Prod.fst) := by
      rw [put_host id, ← hHh]; congr 1
    rw [hp, i4]
    show (w.H h).t.at x = _
    split
    · rename_i hx; rw [hx, i3]; exact he
    · rfl
  · have hp : (w.put i e0 c1 (w.host i).t (w.q (w.N i).host.toNat) L g1 x1).host i = (w.H h).aft sd c1 (L.map Prod.fst) := by
      rw [put_host id, ← hHh]; congr 1
    rw [hp, i4]; rfl
  · have hDn : w.D ++ emitR w.now e0 (w.host i) (w.M (w.host i).addr) L = w.D ++ Dn := hDn
    rw [← List.append_cancel_left hDn] at hr
    obtain ⟨g, kd, g1, _, _, _, g5, _⟩ := emitR_mem _ _ _ _ hr
    exact ⟨g, List.mem_map.2 ⟨_, g1, rfl⟩, g5⟩
theorem Conn.send_open {c : Conn} {l : List Int} (he : (c.send l).2.2.2 = 0) : c.x.st = 3 ∨ ¬ (0 ≤ c.x.st ∧ c.x.st ≤ 4) ∨ (c.x.st = 4 ∧ c.x.ended = 0) := by
  unfold Conn.send at he
  by_cases h0 : c.x.st = 0
  · rw [if_pos h0] at he; exact absurd he (by decide : ¬ (13 : Int) = 0)
  rw [if_neg h0] at he
  by_cases h1 : c.x.st = 1 ∨ c.x.st = 2
  · rw [if_pos h1] at he; exact absurd he (by decide : ¬ (14 : Int) = 0)
  rw [if_neg h1] at he
  by_cases h4 : c.x.st = 4
  · rw [if_pos h4] at he; exact .inr (.inr ⟨h4, he⟩)
  · omega
/-- SEND takes bytes on -/
theorem Inv.send (I : Inv w) (sy : Syn w) (h3 : h < 3) (ho : (w.H h).oursB sd = true) {l : List Int} (hl : Bytes l) (hE : ((w.H h).cn sd).send l |>.2.2.2 = 0) :
    ∃ w' i, Out w w' h ((w.H h).aft sd (((w.H h).cn sd).send l).1 (((w.H h).cn sd).send l).2.2.1) ((w.H h).emitF ((w.H h).ent sd) (((w.H h).cn sd).send l).2.2.1) 2 ∧ RowEff w w' i ∧ (w.N i).host = (h : Int) ∧ (w.N i).sd = sd ∧
      w'.N i = { w.N i with sent := (w.N i).sent ++ l.take (((w.H h).cn sd).send l).2.1.toNat } ∧ (w.N i).closed = false ∧ ((w.H h).cn sd).x.st = 3 ∧ 0 ≤ (((w.H h).cn sd).send l).2.1 ∧ (((w.H h).cn sd).send l).2.1 ≤ l.length ∧ (w'.G i).rd = (w.G i).rd ∧ RowX w w' i := by
  obtain ⟨e0, he, hk, hpa⟩ := Hst.ours_of ho
  obtain ⟨en1, er1⟩ := ent_of he
  obtain ⟨i, i1, i2, i3, i4, i5, r⟩ := I.end_of h3 he hk
  have hcn : (w.H h).cn sd = (w.H h).c e0.slot.toNat := by unfold Hst.cn; rw [en1]
  rw [hcn] at hE ⊢
  rw [en1]
  generalize (w.H h).c e0.slot.toNat = c at *
  have okc := I.row_c i1 r
  have clk : (w.host i).clock = w.now := by rw [i4]; exact sy.clk h h3
  have tki := sy.tk i i1
  have T := Tab.same I i1 r
  cases I.sta i i1 e0 c r with
  | syn cl pe o =>
    exfalso
    rcases Conn.send_open hE with k | k | k
    · have := o.st; omega
    · have := okc.x.st; omega
    · have := o.st; omega
  | srv p cl pe o t pa => exact absurd hpa pa
  | bad st why av pf b =>
    exfalso
    rcases Conn.send_open hE with k | k | ⟨_, k⟩
    · omega
    · have := okc.x.st; omega
    · unfold Cs.ended at k; rw [if_neg (by omega)] at k; omega
  | well p m rel wl wc wo b =>
    rcases wl.st with ⟨rn, nfa⟩ | ⟨st4, _⟩
    · obtain ⟨a1, a2, a3, g', k1, k2, k3, k4, k5, k6, k7⟩ := rel.send rn hl hE
      have prq := I.pair i p m
      have nc : (w.N i).closed = false := by rw [← wc]; exact a1
      have hcr := k3.ok.x.credit
      have hf0 : (w.G i).f = false := by
        cases hf : (w.G i).f with
        | false => rfl
        | true => have := rel.wc hf; rw [a1] at this; cases this
      obtain ⟨L, hL, hI⟩ := I.well (segs := (c.send l).2.2.1) (x1 := { w.N i with sent := (w.N i).sent ++ l.take (c.send l).2.1.toNat }) i1 r clk m T k3 ⟨k4.why, .inl ⟨k4, fun hh => nfa ⟨by rw [← k1.fa]; exact hh.1, by rw [← k1.pf]; exact hh.2⟩⟩⟩ k1.le ⟨_, rfl, fun hf => by rw [hf0] at hf; cases hf⟩ (fun hh => hh) ⟨rfl, rfl, rfl, rfl, rfl, rfl⟩ rfl (by rw [k7]; exact nc.symm) wo (fun hh => absurd hpa hh) ⟨by rw [k1.u]; exact prq.ur, by rw [k1.fa]; exact prq.fa⟩ k5 (fun _ => ⟨by have := rn.st; omega, by omega⟩) (.inr ⟨by have := rn.st; omega, by omega⟩) (fun hh => by have := k4.st; omega) (fun hh => by have := k4.st; omega) (fun hh => by have := k4.st; omega)
      obtain ⟨w', q1, q2, q3, q4, q5, q6, q7⟩ := I.call sy h3 he i1 i2 i3 i4 i5 r (k := 2) (by have h2 := congrArg List.length hL; rw [List.length_map] at h2; omega) hI ⟨rfl, rfl, rfl, rfl, rfl, rfl⟩ rfl rfl (fun _ => rn.st) (by rw [rn.st, k4.st]; rfl) (fun hh => by have := rn.st; omega) k1.le
      rw [hL] at q1
      have hc' : (c.send l).1 = (⟨c.x, c.s.put l, c.r⟩ : Conn).pump.1 := by
        unfold Conn.send at hE ⊢
        have st := rn.st
        rw [if_neg (by omega), if_neg (by omega), if_neg (by omega)] at hE ⊢
        by_cases q : c.x.weClosed = true
        · rw [if_pos q] at hE; exact absurd hE (by decide : ¬ (15 : Int) = 0)
        rw [if_neg q] at hE ⊢
        by_cases q2 : 0 < l.length ∧ c.s.count = 16
        · rw [if_pos q2] at hE; exact absurd hE (by decide : ¬ (14 : Int) = 0)
        rw [if_neg q2]
      exact ⟨w', i, q1, q2, i2, i3, q3, nc, rn.st, a2, a3, by rw [q4]; exact k1.rd, ⟨⟨e0, c, _, r, q5, .inl rn.st, by rw [k4.st, rn.st], by rw [hc']; exact PumpK.trans (d := ⟨c.x, c.s.put l, c.r⟩) ⟨rfl, rfl, rfl, fun _ => rfl⟩ (Conn.pump_k _), fun Dn hDn rc hrc => by
        obtain ⟨s, s1, s2⟩ := q7 Dn hDn rc hrc
        refine ⟨rn.st, ?_⟩
        rw [s2]; rw [hL] at s1; exact k5.fl s s1⟩, by rw [q3], by rw [q4]; exact k1.le.iss, by rw [q4]; exact k1.u, by rw [q4]; exact k1.fa, by rw [q4]; exact k1.pf, by rw [q4]; exact k1.r, fun hf => (by rw [hf0] at hf; cases hf), q6, fun hf => by rw [q3]; rw [q4] at hf ⊢; exact k3.f1 hf⟩⟩
    · exfalso
      rcases Conn.send_open hE with k | k | ⟨_, k⟩
      · omega
      · have := okc.x.st; omega
      · unfold Cs.ended at k; rw [if_pos wl.why] at k; exact absurd k (by decide)
/-- RECV hands bytes over -/
theorem Inv.recv (I : Inv w) (sy : Syn w) (h3 : h < 3) (ho : (w.H h).oursB sd = true) {mx : Int} (hE : ((w.H h).cn sd).recv mx |>.2.2.2 = 0) :
    ∃ w' i p, Out w w' h ((w.H h).aft sd (((w.H h).cn sd).recv mx).1 (((w.H h).cn sd).recv mx).2.2.1) ((w.H h).emitF ((w.H h).ent sd) (((w.H h).cn sd).recv mx).2.2.1) 2 ∧ RowEff w w' i ∧ (w.N i).host = (h : Int) ∧ (w.N i).sd = sd ∧ w'.N i = w.N i ∧ w'.G i = { w.G i with rd := (w.G i).rd + ((w.H h).cn sd).r.readN mx } ∧ (w.G i).r = (w.G i).rd + ((w.H h).cn sd).r.avail ∧ w.mut i p ∧
      (((w.H h).cn sd).recv mx).2.1 = ((w.N p).sent.drop ((w.G i).r - ((w.H h).cn sd).r.avail).toNat).take (((w.H h).cn sd).r.readN mx).toNat ∧ 0 < ((w.H h).cn sd).r.readN mx ∧ ((w.H h).cn sd).r.readN mx ≤ ((w.H h).cn sd).r.avail ∧ (((w.H h).cn sd).recv mx).1.r.avail = ((w.H h).cn sd).r.avail - ((w.H h).cn sd).r.readN mx ∧ (((w.H h).cn sd).recv mx).1.x = ((w.H h).cn sd).x ∧ ((w.H h).cn sd).r.avail ≤ (w.G i).r ∧ (w.G i).r ≤ (w.N p).sent.length ∧ RowX w w' i := by
  obtain ⟨e0, he, hk, hpa⟩ := Hst.ours_of ho
  obtain ⟨en1, er1⟩ := ent_of he
  obtain ⟨i, i1, i2, i3, i4, i5, r⟩ := I.end_of h3 he hk
  have hcn : (w.H h).cn sd = (w.H h).c e0.slot.toNat := by unfold Hst.cn; rw [en1]
  rw [hcn] at hE ⊢
  rw [en1]
  generalize (w.H h).c e0.slot.toNat = c at *
  have okc := I.row_c i1 r
  have clk : (w.host i).clock = w.now := by rw [i4]; exact sy.clk h h3
  have tki := sy.tk i i1
  have T := Tab.same I i1 r
  have av0 : c.r.avail = 0 → c.x.peerFin = false → (c.x.st = 4 → c.x.why ≠ 0) → False := fun ha hp h4 => by
    unfold Conn.recv at hE
    by_cases h0 : c.x.st = 0
    · rw [if_pos h0] at hE; exact absurd hE (by decide : ¬ (13 : Int) = 0)
    rw [if_neg h0] at hE
    by_cases h1 : mx ≤ 0
    · rw [if_pos h1] at hE; exact absurd hE (by decide : ¬ (24 : Int) = 0)
    rw [if_neg h1, if_pos ha, if_neg (by rw [hp]; decide)] at hE
    by_cases h4' : c.x.st = 4
    · rw [if_pos h4'] at hE; exact h4 h4' hE
    · rw [if_neg h4'] at hE; exact absurd hE (by decide : ¬ (14 : Int) = 0)
  cases I.sta i i1 e0 c r with
  | syn cl pe o => exact (av0 o.av o.pf (fun k => by have := o.st; omega)).elim
  | srv p cl pe o t pa => exact absurd hpa pa
  | bad st why av pf b => exact (av0 av pf (fun _ => by omega)).elim
  | well p m rel wl wc wo b =>
    have h12 : c.x.st ≠ 1 ∧ c.x.st ≠ 2 := by
      rcases wl.st with k | k
      · have := k.1.st; omega
      · have := k.1; omega
    have h4f : c.x.st = 4 → c.x.peerFin = true := fun h4 => by
      rcases wl.st with k | k
      · have := k.1.st; omega
      · rw [rel.pf]; exact k.2.2
    obtain ⟨k1, k2, k3, k4, k5, k6, k7, k8, k9⟩ := rel.recv h12 h4f hE
    have prq := I.pair i p m
    have le1 : (w.G i).Le { w.G i with rd := (w.G i).rd + c.r.readN mx } := ⟨rfl, rfl, Int.le_refl _, Int.le_refl _, Int.le_refl _, id, id, id⟩
    have hXX : Gh.X { w.G i with rd := (w.G i).rd + c.r.readN mx } = (w.G i).X := rfl
    have wl1 : Well (c.recv mx).1 { w.G i with rd := (w.G i).rd + c.r.readN mx } := by
      refine ⟨by rw [k5]; exact wl.why, ?_⟩
      rcases wl.st with k | k
      · exact .inl ⟨⟨by rw [k5]; exact k.1.st, by rw [k5]; exact k.1.why, by rw [k5]; exact k.1.tm, by rw [k5]; exact k.1.fl⟩, k.2⟩
      · exact .inr ⟨by rw [k5]; exact k.1, k.2⟩
    obtain ⟨L, hL, hI⟩ := I.well (segs := (c.recv mx).2.2.1) (x1 := w.N i) i1 r clk m T k6 wl1 le1 ⟨[], by simp, fun _ => rfl⟩ (fun hh => hh) (SameId.refl _) rfl (by rw [k5]; exact wc) wo (fun hh => absurd hpa hh) ⟨prq.ur, prq.fa⟩ k7 (fun hh => ⟨by rw [k5] at hh; exact hh, by rw [k5, hXX]; omega⟩) (.inl (by rw [hXX]; omega)) (fun hh => .inr ⟨by rw [k5] at hh; exact hh, by rw [k5]; omega⟩) (fun hh => by rw [k5] at hh ⊢; have := b hh; show (w.G i).b + 10 ≤ _; omega) (fun hh => .inr (.inr (k9 (by rw [k5] at hh; omega))))
    obtain ⟨w', q1, q2, q3, q4, q5, q6, q7⟩ := I.call sy h3 he i1 i2 i3 i4 i5 r (k := 2) (by have h2 := congrArg List.length hL; rw [List.length_map] at h2; omega) hI (SameId.refl _) rfl rfl (fun hh => by rw [k5] at hh; exact hh) (by rw [k5]; exact mayStep_refl _) (fun hh => by rw [k5]; exact .inl rfl) le1
    rw [hL] at q1
    have hrn := rel.r.rn
    have hpl : ((w.N p).sent.take (w.G p).x.toNat).length ≤ (w.N p).sent.length := by rw [List.length_take]; omega
    have st34 : c.x.st = 3 ∨ c.x.st = 4 := by
      rcases wl.st with k | k
      · exact .inl k.1.st
      · exact .inr k.1
    exact ⟨w', i, p, q1, q2, i2, i3, q3, q4, rel.rdq, m, k1, k2, k3, k4, k5, rel.r.av, by omega, ⟨⟨e0, c, _, r, q5, st34, by rw [k5], ⟨by rw [k5], by rw [k5], by rw [k5], fun _ => by rw [k5]⟩, fun Dn hDn rc hrc => by
        obtain ⟨s, s1, s2⟩ := q7 Dn hDn rc hrc
        rw [hL] at s1
        refine ⟨?_, by rw [s2]; exact k7.fl s s1⟩
        rcases st34 with k | k
        · exact k
        · rw [k9 (by omega)] at s1; exact absurd s1 (by simp)⟩, by rw [q3], by rw [q4], by rw [q4], by rw [q4], by rw [q4], by rw [q4], fun hf => ⟨by rw [q4]; rfl, by rw [q3]⟩, q6, fun hf => by rw [q3]; rw [q4] at hf ⊢; exact rel.f1 hf⟩⟩
/-- CLOSE -/
theorem Inv.close (I : Inv w) (sy : Syn w) (h3 : h < 3) (ho : (w.H h).oursB sd = true) (hE : ((w.H h).cn sd).close.2.2 = 0) :
    ∃ w' i, Out w w' h ((w.H h).aft sd ((w.H h).cn sd).close.1 ((w.H h).cn sd).close.2.1) ((w.H h).emitF ((w.H h).ent sd) ((w.H h).cn sd).close.2.1) 2 ∧ RowEff w w' i ∧ (w.N i).host = (h : Int) ∧ (w.N i).sd = sd ∧ w'.N i = { w.N i with closed := true } ∧ (w'.G i).rd = (w.G i).rd ∧ (((w.H h).cn sd).x.st = 3 → RowX w w' i) := by
  obtain ⟨e0, he, hk, hpa⟩ := Hst.ours_of ho
  obtain ⟨en1, er1⟩ := ent_of he
  obtain ⟨i, i1, i2, i3, i4, i5, r⟩ := I.end_of h3 he hk
  have hcn : (w.H h).cn sd = (w.H h).c e0.slot.toNat := by unfold Hst.cn; rw [en1]
  rw [hcn] at hE ⊢
  rw [en1]
  generalize (w.H h).c e0.slot.toNat = c at *
  have okc := I.row_c i1 r
  have clk : (w.host i).clock = w.now := by rw [i4]; exact sy.clk h h3
  have tki := sy.tk i i1
  have T := Tab.same I i1 r
  cases I.sta i i1 e0 c r with
  | syn cl pe o =>
    have st := o.st
    have e : c.close = (c.fail 20, [], 0) := by
      unfold Conn.close; rw [if_neg (by omega), if_neg (by omega), if_pos st]
    rw [e]
    obtain ⟨f1, f2, f3, f4, f5, f6⟩ := Conn.fail_is okc 20 (by decide)
    have hI := I.fail (x1 := { w.N i with closed := true }) (L := []) i1 r clk f1 f2 f3 f4 f5 (.inl f6) ⟨rfl, rfl, rfl, rfl, rfl, rfl⟩ rfl rfl (fun _ => rfl) rfl (fun g k hh => absurd hh (by simp))
    obtain ⟨w', q1, q2, q3, q4, q5, q6, q7⟩ := I.call sy h3 he i1 i2 i3 i4 i5 r (L := []) (k := 2) (by simp) hI ⟨rfl, rfl, rfl, rfl, rfl, rfl⟩ rfl rfl (fun hh => by rw [f2] at hh; exact absurd hh (by decide)) (by rw [st, f2]; rfl) (fun hh => by omega) (Gh.Le.refl _)
    exact ⟨w', i, q1, q2, i2, i3, q3, by rw [q4], fun k => by omega⟩
  | srv p cl pe o t pa => exact absurd hpa pa
  | bad st why av pf b =>
    exfalso
    unfold Conn.close at hE
    rw [if_neg (by omega), if_pos st] at hE
    have hE : c.x.ended = 0 := hE
    unfold Cs.ended at hE; rw [if_neg (by omega)] at hE; omega
  | well p m rel wl wc wo b =>
    rcases wl.st with ⟨rn, nfa⟩ | ⟨st4, _⟩
    · have st := rn.st
      have hwf : c.x.weClosed = false := by
        cases hw : c.x.weClosed with
        | false => rfl
        | true =>
          unfold Conn.close at hE
          rw [if_neg (by omega), if_neg (by omega), if_neg (by omega), if_pos hw] at hE
          exact absurd hE (by decide : ¬ (15 : Int) = 0)
      obtain ⟨_, g', k1, k2, k3, k4, k5, k6, k7⟩ := rel.close rn hwf
      have prq := I.pair i p m
      have hcr := k3.ok.x.credit
      obtain ⟨L, hL, hI⟩ := I.well (segs := c.close.2.1) (x1 := { w.N i with closed := true }) i1 r clk m T k3 ⟨k4.why, .inl ⟨k4, fun hh => nfa ⟨by rw [← k1.fa]; exact hh.1, by rw [← k1.pf]; exact hh.2⟩⟩⟩ k1.le ⟨[], by simp, fun _ => rfl⟩ (fun _ => rfl) ⟨rfl, rfl, rfl, rfl, rfl, rfl⟩ rfl (by rw [k7]) wo (fun hh => absurd hpa hh) ⟨by rw [k1.u]; exact prq.ur, by rw [k1.fa]; exact prq.fa⟩ k5 (fun _ => ⟨by omega, by omega⟩) (.inr ⟨by omega, by omega⟩) (fun hh => by have := k4.st; omega) (fun hh => by have := k4.st; omega) (fun hh => by have := k4.st; omega)
      obtain ⟨w', q1, q2, q3, q4, q5, q6, q7⟩ := I.call sy h3 he i1 i2 i3 i4 i5 r (k := 2) (by have h2 := congrArg List.length hL; rw [List.length_map] at h2; omega) hI ⟨rfl, rfl, rfl, rfl, rfl, rfl⟩ rfl rfl (fun _ => st) (by rw [st, k4.st]; rfl) (fun hh => by omega) k1.le
      rw [hL] at q1
      have hc' : c.close.1 = (⟨{ c.x with weClosed := true }, c.s, c.r⟩ : Conn).pump.1 := by
        unfold Conn.close
        rw [if_neg (by omega), if_neg (by omega), if_neg (by omega), if_neg (by rw [hwf]; decide)]
      have hf0 : (w.G i).f = false := by
        cases hf : (w.G i).f with
        | false => rfl
        | true => have := rel.wc hf; rw [hwf] at this; cases this
      exact ⟨w', i, q1, q2, i2, i3, q3, by rw [q4]; exact k1.rd, fun _ => ⟨⟨e0, c, _, r, q5, .inl st, by rw [k4.st, st], by rw [hc']; exact PumpK.trans (d := ⟨{ c.x with weClosed := true }, c.s, c.r⟩) ⟨rfl, rfl, rfl, fun _ => rfl⟩ (Conn.pump_k _), fun Dn hDn rc hrc => by
        obtain ⟨s, s1, s2⟩ := q7 Dn hDn rc hrc
        refine ⟨st, ?_⟩
        rw [s2]; rw [hL] at s1; exact k5.fl s s1⟩, by rw [q3], by rw [q4]; exact k1.le.iss, by rw [q4]; exact k1.u, by rw [q4]; exact k1.fa, by rw [q4]; exact k1.pf, by rw [q4]; exact k1.r, fun hf => (by rw [hf0] at hf; cases hf), q6, fun hf => by rw [q3]; rw [q4] at hf ⊢; exact k3.f1 hf⟩⟩
    · exfalso
      unfold Conn.close at hE
      rw [if_neg (by omega), if_pos st4] at hE
      have hE : c.x.ended = 0 := hE
      unfold Cs.ended at hE; rw [if_pos wl.why] at hE; exact absurd hE (by decide)
/-- ABORT of any connection's row -/
theorem Inv.abort (I : Inv w) (sy : Syn w) (h3 : h < 3) (he : (w.H h).t.at sd = some e0) (hk : e0.kind = 2) :
    ((w.H h).cn sd).abort.2.2 = 0 ∧ ∃ w' i, Out w w' h ((w.H h).aft sd ((w.H h).cn sd).abort.1 ((w.H h).cn sd).abort.2.1) ((w.H h).emitF ((w.H h).ent sd) ((w.H h).cn sd).abort.2.1) 1 ∧ RowEff w w' i ∧ (w.N i).host = (h : Int) ∧ (w.N i).sd = sd ∧ w'.N i = w.N i ∧ ((w.H h).cn sd).abort.1.x.st = 4 ∧ ((w.H h).cn sd).abort.1.x.why ≠ 0 ∧ w'.row i e0 ((w.H h).cn sd).abort.1 ∧ w'.q = w.q ∧ w'.G = w.G := by
  obtain ⟨en1, er1⟩ := ent_of he
  obtain ⟨i, i1, i2, i3, i4, i5, r⟩ := I.end_of h3 he hk
  have hcn : (w.H h).cn sd = (w.H h).c e0.slot.toNat := by unfold Hst.cn; rw [en1]
  rw [hcn, en1]
  generalize (w.H h).c e0.slot.toNat = c at *
  have okc := I.row_c i1 r
  have clk : (w.host i).clock = w.now := by rw [i4]; exact sy.clk h h3
  have tki := sy.tk i i1
  obtain ⟨f1, f2, f3, f4, f5, f6⟩ := Conn.fail_is okc 20 (by decide)
  -- the three ends
  have key : ∀ (c1 : Conn) (segs : List Seg), c.abort = (c1, segs, 0) → c1.Ok → c1.x.st = 4 → 17 ≤ c1.x.why → c1.r.avail = 0 → c1.x.peerFin = false → (c1.x.quiet = 10 ∨ (c.x.st = 4 ∧ c.x.quiet ≤ c1.x.quiet + (w.now - w.tk i))) → (∀ g, g ∈ segs → g.Ok ∧ g.flags / 8 = 1) → segs.length ≤ 1 → mayStep c.x.st 4 = true → (c.x.st = 4 → c1.x.why = c.x.why ∨ (c.x.why = 0 ∧ c1.x.why = 20)) →
      c.abort.2.2 = 0 ∧ ∃ w' i, Out w w' h ((w.H h).aft sd c.abort.1 c.abort.2.1) ((w.H h).emitF e0 c.abort.2.1) 1 ∧ RowEff w w' i ∧ (w.N i).host = (h : Int) ∧ (w.N i).sd = sd ∧ w'.N i = w.N i ∧ c.abort.1.x.st = 4 ∧ c.abort.1.x.why ≠ 0 ∧ w'.row i e0 c.abort.1 ∧ w'.q = w.q ∧ w'.G = w.G := fun c1 segs e a1 a2 a3 a4 a5 a6 a7 a8 a9 a10 => by
    rw [e]
    have hI := I.fail (x1 := w.N i) (L := segs.map fun g => (g, Kd.rst)) i1 r clk a1 a2 a3 a4 a5 a6 (SameId.refl _) rfl rfl (fun hh => hh) rfl (fun g k hh => by
      obtain ⟨g', hg, hh⟩ := List.mem_map.1 hh
      cases hh
      exact ⟨(a7 _ hg).1, rfl, (a7 _ hg).2⟩)
    have hm : (segs.map fun g => (g, Kd.rst)).map Prod.fst = segs := by rw [List.map_map]; simp [Function.comp_def]
    obtain ⟨w', q1, q2, q3, q4, q5, q6, q7⟩ := I.call sy h3 he i1 i2 i3 i4 i5 r (L := segs.map fun g => (g, Kd.rst)) (k := 1) (by rw [List.length_map]; exact a8) hI (SameId.refl _) rfl rfl (fun hh => by omega) (by rw [a2]; exact a9) a10 (Gh.Le.refl _)
    rw [hm] at q1
    exact ⟨rfl, w', i, q1, q2, i2, i3, q3, a2, fun hz => by rw [hz] at a3; exact absurd a3 (by decide), q5, q6, by
      funext j
      by_cases hj : j = i
      · subst hj; exact q4
      · exact q2.G j hj⟩
  cases I.sta i i1 e0 c r with
  | syn cl pe o =>
    have st := o.st
    refine key (c.fail 20) [] ?_ f1 f2 f3 f4 f5 (.inl f6) (fun g hg => absurd hg (by simp)) (by simp) (by rw [st]; rfl) (fun hh => by omega)
    unfold Conn.abort; rw [if_neg (by omega), if_neg (by omega), if_pos st]
  | srv p cl pe o t pa =>
    have st := o.st
    refine key (c.fail 20) [rstS c.sndNxt] ?_ f1 f2 f3 f4 f5 (.inl f6) (fun g hg => ?_) (by simp) (by rw [st]; rfl) (fun hh => by omega)
    · unfold Conn.abort; rw [if_neg (by omega), if_neg (by omega), if_neg (by omega)]
    · have hg : g = _ := List.mem_singleton.1 hg
      subst hg; exact ⟨ok_rst _, rfl⟩
  | bad st why av pf b =>
    refine key c [] ?_ okc st why av pf (.inr ⟨st, by omega⟩) (fun g hg => absurd hg (by simp)) (by simp) (by rw [st]; rfl) (fun _ => .inl rfl)
    unfold Conn.abort; rw [if_neg (by omega), if_pos st, if_neg (by omega)]
  | well p m rel wl wc wo b =>
    rcases wl.st with ⟨rn, nfa⟩ | ⟨st4, _⟩
    · have st := rn.st
      refine key (c.fail 20) [rstS c.sndNxt] ?_ f1 f2 f3 f4 f5 (.inl f6) (fun g hg => ?_) (by simp) (by rw [st]; rfl) (fun hh => by omega)
      · unfold Conn.abort; rw [if_neg (by omega), if_neg (by omega), if_neg (by omega)]
      · have hg : g = _ := List.mem_singleton.1 hg
        subst hg; exact ⟨ok_rst _, rfl⟩
    · refine key ⟨{ (c.fail 20).x with quiet := c.x.quiet }, (c.fail 20).s, (c.fail 20).r⟩ [] ?_ ?_ rfl (by show (17 : Int) ≤ 20; decide) rfl rfl (.inr ⟨st4, by show c.x.quiet ≤ c.x.quiet + _; omega⟩) (fun g hg => absurd hg (by simp)) (by simp) (by rw [st4]; rfl) (fun _ => .inr ⟨wl.why, rfl⟩)
      · unfold Conn.abort; rw [if_neg (by omega), if_pos st4, if_pos wl.why]
      · obtain ⟨b1, b2, b3, b4, b5, b6, b7⟩ := f1.x
        exact ⟨⟨b1, b2, b3, b4, b5, b6, okc.x.quiet⟩, f1.s, f1.r⟩
end
end Go.Proofs.Qxb6500351aGreat
