/- THE PLAIN LAW of the whole network, part 5: one connection fails, waits, opens. No Go in sight. -/
import Derived.Test.Qxb6500351aGreatPl21
set_option linter.unusedVariables false
set_option linter.unusedSimpArgs false
namespace Go.Proofs.Qxb6500351aGreat
open Go.Eng
section
variable {w : W} {i p : Nat} {e0 e1 : En} {c0 c1 : Conn} {x1 : Ned} {L : List (Seg × Kd)}
/-- the table and the queues stay -/
abbrev W.put0 (w : W) (i : Nat) (e0 : En) (c1 : Conn) (L : List (Seg × Kd)) (x1 : Ned) : W := w.put i e0 c1 (w.host i).t (w.q (w.N i).host.toNat) L (w.G i) x1
theorem GhOk.same {g : Gh} {x y : Ned} (h : GhOk g x) (hs : y.sent = x.sent) (hc : x.closed = true → y.closed = true) : GhOk g y :=
  ⟨h.iss, h.u0, h.ux, by rw [hs]; exact h.xn, h.r0, fun k => by rw [hs]; exact ⟨(h.f1 k).1, hc (h.f1 k).2⟩, fun k => by rw [hs]; exact h.fa1 k, h.xu, h.rd, h.rw_⟩
theorem rst_rec {w' : W} {r : Rc} {g : Seg} (h : r.g = stamp e0 g) (k : r.k = .rst) (hf : g.flags / 8 = 1) : RecOk w' r := .rst k (by rw [h]; exact hf)
/-- A CONNECTION FAILS -/
theorem Inv.fail (I : Inv w) (hi : i < w.n) (r : w.row i e0 c0) (clk : (w.host i).clock = w.now) (ok : c1.Ok) (st : c1.x.st = 4) (why : 17 ≤ c1.x.why) (av : c1.r.avail = 0) (pf : c1.x.peerFin = false) (q : c1.x.quiet = 10 ∨ (c0.x.st = 4 ∧ c0.x.quiet ≤ c1.x.quiet + (w.now - w.tk i)))
    (id : SameId (w.N i) x1) (pe : x1.peer = (w.N i).peer) (se : x1.sent = (w.N i).sent) (cl : (w.N i).closed = true → x1.closed = true) (wo : x1.wasOpen = (w.N i).wasOpen) (hL : ∀ g k, (g, k) ∈ L → g.Ok ∧ k = .rst ∧ g.flags / 8 = 1) : Inv (w.put0 i e0 c1 L x1) := by
  have T := Tab.same I hi r
  have htk := I.tkn i hi
  have gi := I.gh i hi
  refine I.put (e1 := e0) (c0 := c0) ⟨hi, r, clk, ok, fun g k h => (hL g k h).1, by rw [st]; decide, T.good, T.K, T.tok, T.at_, T.sim, T.nsd, id, .inl pe, Gh.Le.refl _, ⟨[], by rw [se]; simp, fun _ => rfl⟩, cl, ?_, gi.same se cl, fun hno => ⟨rfl, se⟩, fun p m => ⟨I.pair i p m, I.pair p i m.symm⟩, fun h => by rw [wo]; exact I.rd i hi e0 c0 r h, fun h => absurd st h, .inl (by omega), fun _ => q, fun g k h rc _ _ _ h4 h5 => rst_rec h4 (h5.trans (hL g k h).2.1) (hL g k h).2.2⟩
  refine .bad st why av pf ?_
  rw [put_G, put_tk]
  rcases q with q | ⟨q1, q2⟩
  · rw [q]; omega
  · cases I.sta i hi e0 c0 r with
    | syn cl pe o => have := o.st; omega
    | srv p cl pe o => have := o.st; omega
    | well p m r o wc wo b => have := b q1; omega
    | bad st why av pf b => omega
theorem Conn.fail_is {c : Conn} (h : c.Ok) (why : Int) (hw : 17 ≤ why) : (c.fail why).Ok ∧ (c.fail why).x.st = 4 ∧ 17 ≤ (c.fail why).x.why ∧ (c.fail why).r.avail = 0 ∧ (c.fail why).x.peerFin = false ∧ (c.fail why).x.quiet = 10 := ⟨Conn.ok_fail h why, rfl, hw, rfl, rfl, rfl⟩
/-- what an opening puts out again -/
theorem Ong.again1 {c : Conn} {iss : Int} (h : Ong c 1 iss) (hi : 0 ≤ iss ∧ iss < 256) : c.again.Ok ∧ c.again.flags = 1 ∧ c.again.seq = iss ∧ c.again.data = [] := by
  have ho := Conn.ok_again h.ok
  unfold Conn.again at ho ⊢
  rw [if_pos h.st] at ho ⊢
  exact ⟨ho, rfl, h.iss, rfl⟩
theorem Ong.again2 {c : Conn} {iss : Int} (h : Ong c 2 iss) : c.again.Ok ∧ c.again.flags = 3 ∧ c.again.seq = iss ∧ c.again.ack = c.r.nxt ∧ c.again.data = [] := by
  have ho := Conn.ok_again h.ok
  unfold Conn.again at ho ⊢
  have : ¬ c.x.st = 1 := by rw [h.st]; decide
  rw [if_neg this, if_pos h.st] at ho ⊢
  refine ⟨ho, rfl, h.iss, ?_, rfl⟩
  unfold Conn.mk' Conn.rcvNxt
  dsimp only
  rw [if_neg (by decide), if_neg (by rw [h.pf]; decide)]
/-- AN OPENING CLIENT WAITS ON -/
theorem Inv.syn (I : Inv w) (hi : i < w.n) (r : w.row i e0 c0) (clk : (w.host i).clock = w.now) (cl : (w.N i).client = true) (pe : (w.N i).peer = -1) (o0 : c0.x.st = 1) (o : Ong c1 1 (w.G i).iss) (t : w.now + rem c1.x ≤ (w.G i).b + 30) (cr : c1.x.credit ≤ c0.x.credit + 12 * (w.now - w.tk i))
    (hL : ∀ g k, (g, k) ∈ L → g.Ok ∧ ((k = .rst ∧ g.flags / 8 = 1) ∨ (k = .syn i ∧ g.flags = 1 ∧ g.seq = (w.G i).iss ∧ g.data = []))) : Inv (w.put0 i e0 c1 L (w.N i)) := by
  have T := Tab.same I hi r
  have htk := I.tkn i hi
  have gi := I.gh i hi
  have st := o.st
  have sta0 : e0.parent = 0 ∧ (w.N i).closed = false ∧ (w.N i).wasOpen = false ∧ w.G i = Gh.new (w.G i).iss (w.G i).b ∧ (w.N i).sent = [] := by
    cases I.sta i hi e0 c0 r with
    | syn cl pe o t pa nc wo z zs => exact ⟨pa, nc, wo, z, zs⟩
    | srv p cl pe o => have := o.st; omega
    | well p m r o wc wo b => rcases o.st with k | k
                              · have := k.1.st; omega
                              · have := k.1; omega
    | bad st why av pf b => omega
  obtain ⟨pa, nc, wo, z, zs⟩ := sta0
  refine I.put (e1 := e0) (c0 := c0) ⟨hi, r, clk, o.ok, fun g k h => (hL g k h).1, by rw [st]; decide, T.good, T.K, T.tok, T.at_, T.sim, T.nsd, SameId.refl _, .inl rfl, Gh.Le.refl _, ⟨[], by simp, fun _ => rfl⟩, id, ?_, gi, fun hno => ⟨rfl, rfl⟩, fun p m => ⟨I.pair i p m, I.pair p i m.symm⟩, fun h => I.rd i hi e0 c0 r h, fun h => ⟨by rw [o0]; decide, by omega⟩, .inl (by omega), fun h => by rw [st] at h; exact absurd h (by decide), fun g k h rc h1 h2 h3 h4 h5 => ?_⟩
  · exact .syn (by rw [put_N]; exact cl) (by rw [put_N]; exact pe) (by rw [put_G]; exact o) (by rw [put_tk, put_G]; exact t) pa (by rw [put_N]; exact nc) (by rw [put_N]; exact wo) (by rw [put_G]; exact z) (by rw [put_N]; exact zs)
  · rcases (hL g k h).2 with ⟨k1, k2⟩ | ⟨k1, k2, k3, k4⟩
    · exact rst_rec h4 (h5.trans k1) k2
    · obtain ⟨r1, r2⟩ := put_row (c1 := c1) (L := L) (g1 := w.G i) (q' := w.q (w.N i).host.toNat) I hi r T.at_ T.sim (SameId.refl _)
      have hrp := o.rem_pos
      refine .syn i (I.seg_of hi r (w' := w.put0 i e0 c1 L (w.N i)) rfl (by rw [put_N]; exact SameId.refl _) h2 h3 h4) (h5.trans k1) (by rw [put_N]; exact cl) (by rw [h4]; exact k2) (by rw [h4, put_G]; exact k3) (by rw [h4]; exact k4) ?_ ?_ ?_
      · rw [put_G, h1]; omega
      · exact ⟨e0, c1, r1, fun h => by rw [st] at h; exact absurd h (by decide)⟩
      · intro j hj; rw [put_N] at hj; omega
/-- AN OPENING CHILD WAITS ON -/
theorem Inv.srv (I : Inv w) (hi : i < w.n) (r : w.row i e0 c0) (clk : (w.host i).clock = w.now) (o0 : c0.x.st = 2) (o : Ong c1 2 (w.G i).iss) (nx : c1.r.nxt = c0.r.nxt) (t : w.now + rem c1.x ≤ (w.G i).b + 30) (cr : c1.x.credit ≤ c0.x.credit + 12 * (w.now - w.tk i))
    (hL : ∀ g k, (g, k) ∈ L → g.Ok ∧ ((k = .rst ∧ g.flags / 8 = 1) ∨ (k = .sa i ∧ g.flags = 3 ∧ g.seq = (w.G i).iss ∧ g.ack = c0.r.nxt ∧ g.data = []))) : Inv (w.put0 i e0 c1 L (w.N i)) := by
  have T := Tab.same I hi r
  have htk := I.tkn i hi
  have gi := I.gh i hi
  have st := o.st
  have sta0 : ∃ p : Nat, (w.N i).client = false ∧ (w.N i).peer = (p : Int) ∧ e0.parent ≠ 0 ∧ c0.r.nxt = ((w.G p).iss + 1) % 256 ∧ (w.N i).closed = false ∧ (w.N i).wasOpen = false ∧ w.G i = Gh.new (w.G i).iss (w.G i).b ∧ (w.N i).sent = [] := by
    cases I.sta i hi e0 c0 r with
    | syn cl pe o t pa nc wo z zs => have := o.st; omega
    | srv p cl pe o t pa nx nc wo z zs => exact ⟨p, cl, pe, pa, nx, nc, wo, z, zs⟩
    | well p m r o wc wo b => rcases o.st with k | k
                              · have := k.1.st; omega
                              · have := k.1; omega
    | bad st why av pf b => omega
  obtain ⟨p, cl, pe, pa, nx0, nc, wo, z, zs⟩ := sta0
  have hpi : p ≠ i := fun h => by
    subst h
    obtain ⟨q, q1, q2, _⟩ := I.kid p hi cl
    omega
  refine I.put (e1 := e0) (c0 := c0) ⟨hi, r, clk, o.ok, fun g k h => (hL g k h).1, by rw [st]; decide, T.good, T.K, T.tok, T.at_, T.sim, T.nsd, SameId.refl _, .inl rfl, Gh.Le.refl _, ⟨[], by simp, fun _ => rfl⟩, id, ?_, gi, fun hno => ⟨rfl, rfl⟩, fun p m => ⟨I.pair i p m, I.pair p i m.symm⟩, fun h => I.rd i hi e0 c0 r h, fun h => ⟨by rw [o0]; decide, by omega⟩, .inl (by omega), fun h => by rw [st] at h; exact absurd h (by decide), fun g k h rc h1 h2 h3 h4 h5 => ?_⟩
  · exact .srv p (by rw [put_N]; exact cl) (by rw [put_N]; exact pe) (by rw [put_G]; exact o) (by rw [put_tk, put_G]; exact t) pa (by rw [put_Gn hpi]; exact nx.trans nx0) (by rw [put_N]; exact nc) (by rw [put_N]; exact wo) (by rw [put_G]; exact z) (by rw [put_N]; exact zs)
  · rcases (hL g k h).2 with ⟨k1, k2⟩ | ⟨k1, k2, k3, k4, k5⟩
    · exact rst_rec h4 (h5.trans k1) k2
    · obtain ⟨r1, r2⟩ := put_row (c1 := c1) (L := L) (g1 := w.G i) (q' := w.q (w.N i).host.toNat) I hi r T.at_ T.sim (SameId.refl _)
      have hrp := o.rem_pos
      refine .sa i p (I.seg_of hi r (w' := w.put0 i e0 c1 L (w.N i)) rfl (by rw [put_N]; exact SameId.refl _) h2 h3 h4) (h5.trans k1) (by rw [put_N]; exact cl) (by rw [put_N]; exact pe) (by rw [h4]; exact k2) (by rw [h4, put_G]; exact k3) ?_ (by rw [h4]; exact k5) ?_ ?_
      · rw [h4, put_Gn hpi]
        show g.ack = _
        rw [k4, nx0]
      · rw [put_G, h1]; omega
      · exact ⟨e0, c1, r1, fun h => by rw [st] at h; exact absurd h (by decide)⟩
theorem pair_zero {g h : Gh} (a : g = Gh.new g.iss g.b) (b : h = Gh.new h.iss h.b) : PairOk g h := by
  rw [a, b]
  exact ⟨Int.le_refl _, Int.le_refl _, fun k => absurd (show false = true from k) (by decide), fun k => absurd (show false = true from k) (by decide)⟩
/-- A CLIENT OPENS towards the child p -/
theorem Inv.open_c (I : Inv w) (hi : i < w.n) (r : w.row i e0 c0) (clk : (w.host i).clock = w.now) (tki : w.tk i = w.now) (cl : (w.N i).client = true) (pe : (w.N i).peer = -1) (o0 : c0.x.st = 1) (hp : p < w.n) (kid : (w.N p).client = false) (pp : (w.N p).peer = (i : Int)) (pr : w.pres p 6) (tkp : w.tk p = w.now) (zp : w.G p = Gh.new (w.G p).iss (w.G p).b)
    (rel : Rel c1 (w.G i) (w.N i).sent (w.G p) (w.N p).sent) (run : Run c1 (w.G i)) (wc : c1.x.weClosed = false) (cr : c1.x.credit ≤ c0.x.credit) (id : SameId (w.N i) x1) (hpe : x1.peer = (p : Int)) (se : x1.sent = (w.N i).sent) (hcl : x1.closed = (w.N i).closed) (wo : x1.wasOpen = true) : ∃ k, Inv (w.put0 i e0 c1 [(c1.ack, k)] x1) := by
  refine ⟨.est i 0 0, ?_⟩
  have T := Tab.same I hi r
  have gi := I.gh i hi
  have st := run.st
  have sta0 : e0.parent = 0 ∧ (w.N i).closed = false ∧ w.G i = Gh.new (w.G i).iss (w.G i).b := by
    cases I.sta i hi e0 c0 r with
    | syn cl pe o t pa nc wo z zs => exact ⟨pa, nc, z⟩
    | srv p cl pe o => have := o.st; omega
    | well p m r o wc wo b => have := m.ip; omega
    | bad st why av pf b => omega
  obtain ⟨pa, nc, z⟩ := sta0
  have hpi : p ≠ i := fun h => by subst h; rw [cl] at kid; cases kid
  obtain ⟨ep, cp, rp, qp⟩ := pr
  have last : ∀ k, k < w.n → twin (w.N p) (w.N k) → k ≤ p := fun k hk ht => I.row_last hp hk rp ht
  have ops : Opens w i p x1.peer (w.G i) := ⟨pe, cl, hpe, hp, kid, pp, last, pair_zero z zp, pair_zero zp z, ⟨ep, cp, rp, qp⟩, tkp⟩
  have hX : (w.G i).X = 0 ∧ (w.G i).R = 0 ∧ (w.G i).u = 0 ∧ (w.G i).U = 0 := by rw [z]; exact ⟨rfl, rfl, rfl, rfl⟩
  have hXp : (w.G p).X = 0 := by rw [zp]; rfl
  have ackv := rel.ackV (by omega) (by omega)
  rw [hX.1, hX.2.1] at ackv
  have hnm : ∀ p, ¬ w.mut i p := fun p m => by have := m.ip; omega
  refine I.put (e1 := e0) (c0 := c0) ⟨hi, r, clk, rel.ok, fun g k h => ?_, by rw [st]; decide, T.good, T.K, T.tok, T.at_, T.sim, T.nsd, id, .inr ⟨p, ops⟩, Gh.Le.refl _, ⟨[], by rw [se]; simp, fun _ => rfl⟩, fun k => by rw [hcl]; exact k, ?_, gi.same se (fun k => by rw [hcl]; exact k), fun hno => ⟨rfl, se⟩, fun p m => absurd m (hnm p), fun h => absurd pa h, fun h => ⟨by rw [o0]; decide, by omega⟩, .inl (by omega), fun h => by rw [st] at h; exact absurd h (by decide), fun g k h rc h1 h2 h3 h4 h5 => ?_⟩
  · have h : (g, k) = (c1.ack, Kd.est i 0 0) := by simpa using h
    cases h; exact Conn.ok_ack rel.ok
  · refine .well p ⟨hi, hp, by rw [put_N]; exact hpe, by rw [put_Nn hpi]; exact pp⟩ ?_ ?_ ?_ (by rw [put_N]; exact wo) (fun h => by rw [st] at h; exact absurd h (by decide))
    · rw [put_G, put_N, put_Gn hpi, put_Nn hpi, se]; exact rel
    · rw [put_G]
      refine ⟨run.why, .inl ⟨run, fun k => ?_⟩⟩
      rw [z] at k; exact absurd (show false = true from k.1) (by decide)
    · rw [put_N, hcl, nc]; exact wc
  · have h : (g, k) = (c1.ack, Kd.est i 0 0) := by simpa using h
    cases h
    obtain ⟨r1, r2⟩ := put_row (c1 := c1) (L := [(c1.ack, Kd.est i 0 0)]) (g1 := w.G i) (q' := w.q (w.N i).host.toNat) I hi r T.at_ T.sim id
    have hcr := rel.ok.x.credit
    refine .est i p 0 0 (I.seg_of hi r (w' := w.put0 i e0 c1 [(c1.ack, Kd.est i 0 0)] x1) rfl (by rw [put_N]; exact id) h2 h3 h4) h5 ⟨hi, hp, by rw [put_N]; exact hpe, by rw [put_Nn hpi]; exact pp⟩ ?_ (Int.le_refl _) (by rw [put_G, hX.2.1]; exact Int.le_refl _) (by rw [put_G, hX.1]; exact Int.le_refl _) ?_ ?_ (.inl ⟨e0, c1, r1, fun h => by rw [st] at h; exact absurd h (by decide)⟩)
    · rw [put_G, put_N, put_Gn hpi, h4, se]
      exact ⟨stamp_ok (I.row_e hi r) ackv.ok, ackv.flags, ackv.seq, ackv.ack, ackv.k0, ackv.data⟩
    · rw [put_tk, h1]
      refine ⟨by rw [put_G]; omega, fun e c hr hs => ?_⟩
      rw [put_G, (hr.inj r1).2]; omega
    · rw [put_tkn hpi, h1]
      refine ⟨by rw [put_Gn hpi]; omega, fun e c hr hs => ?_⟩
      rw [put_Gn hpi]
      have := (I.row_c hp ((r2 p hp hpi e c).1 hr)).x.credit
      omega
end
end Go.Proofs.Qxb6500351aGreat
