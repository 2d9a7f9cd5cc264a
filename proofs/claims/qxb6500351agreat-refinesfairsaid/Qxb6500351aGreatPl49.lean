/- THE PLAIN LAW of the law's walk: Send, Recv. No Go in sight. -/
import Derived.Test.Qxb6500351aGreatPl48
set_option linter.unusedVariables false
set_option linter.unusedSimpArgs false
namespace Go.Proofs.Qxb6500351aGreat
open Go.Eng
theorem wantSend_eq {c : Conn} (ok : c.Ok) (h0 : c.x.st ≠ 0) (l : List Int) : wantSend c.info l.length = ((c.send l).2.1, (c.send l).2.2.2) := by
  have h1 := ok.x.st
  have h2 := ok.s
  have hc : 0 ≤ c.s.count ∧ c.s.count ≤ 16 := by have := h2.sent0; have := h2.sentc; have := h2.count; omega
  have e1 : c.info.state = c.x.st := rfl
  have e2 : c.info.weClosed = c.x.weClosed := rfl
  have e3 : c.info.queued = c.s.count := rfl
  have e4 : c.info.why = c.x.why := rfl
  unfold wantSend Conn.send
  rw [e1, e2, e3, if_neg h0]
  by_cases k1 : c.x.st = 1 ∨ c.x.st = 2
  · rw [if_pos k1, if_pos k1]
  rw [if_neg k1, if_neg k1]
  by_cases k2 : c.x.st = 4
  · rw [if_pos k2, if_pos k2]; unfold ciEnded Cs.ended; rw [e4]
    by_cases k : c.x.why = 0
    · rw [if_neg (fun h => h k), if_pos k]
    · rw [if_pos k, if_neg k]
  rw [if_neg k2, if_neg k2]
  by_cases k3 : c.x.weClosed = true
  · rw [if_pos k3, if_pos k3]
  rw [if_neg k3, if_neg k3]
  by_cases k4 : 0 < l.length ∧ c.s.count = 16
  · rw [if_pos k4, if_pos (by omega), if_pos (by omega)]
  rw [if_neg k4]
  dsimp only
  unfold Sb.putN least
  by_cases k5 : 16 - c.s.count < (l.length : Int)
  · rw [if_pos k5, if_neg (by omega)]
    have : max 0 (min (l.length : Int) (16 - c.s.count)) = 16 - c.s.count := by omega
    rw [this]
  · rw [if_neg k5]
    have : max 0 (min (l.length : Int) (16 - c.s.count)) = l.length := by omega
    rw [this]
theorem wantRecv_eq {c : Conn} (ok : c.Ok) (h0 : c.x.st ≠ 0) (mx : Int) : wantRecv c.info mx = (((c.recv mx).2.1.length : Int), (c.recv mx).2.2.2) := by
  have e1 : c.info.state = c.x.st := rfl
  have e2 : c.info.peerFin = c.x.peerFin := rfl
  have e3 : c.info.avail = c.r.avail := rfl
  have e4 : c.info.why = c.x.why := rfl
  unfold wantRecv Conn.recv
  rw [e1, e2, e3, e4, if_neg h0]
  by_cases k1 : mx ≤ 0
  · rw [if_pos k1, if_pos k1]; rfl
  rw [if_neg k1, if_neg k1]
  by_cases k2 : c.r.avail = 0
  · rw [if_pos k2, if_pos k2]
    split
    · rfl
    · split <;> rfl
  rw [if_neg k2, if_neg k2]
  dsimp only
  have hb := Rb.readN_b ok.r mx
  have hl : ((c.r.first (c.r.readN mx)).length : Int) = c.r.readN mx := by rw [Rb.first_len]; omega
  rw [hl]
  have hav := ok.r.av0
  unfold Rb.readN least
  by_cases k3 : c.r.avail < mx
  · rw [if_pos k3]
    have : max 0 (min mx c.r.avail) = c.r.avail := by omega
    rw [this]
  · rw [if_neg k3]
    have : max 0 (min mx c.r.avail) = mx := by omega
    rw [this]
def Wrld.sendW (x : Wrld) (c : Nat) (sd n : Int) : Int × Int := if (x.H c).oursB sd = true then wantSend ((x.H c).infoC sd) n else (0, 21)
def Wrld.recvW (x : Wrld) (c : Nat) (sd mx : Int) : Int × Int := if (x.H c).oursB sd = true then wantRecv ((x.H c).infoC sd) mx else (0, 21)
def Wrld.send (x : Wrld) (c : Nat) (sd : Int) (l : List Int) : Wrld := ({ x with H := upA x.H c ((x.H c).aft sd (((x.H c).cn sd).send l).1 (((x.H c).cn sd).send l).2.2.1), N := nTaken x.N (nFind x.N c sd) (((x.H c).cn sd).send l).2.1 l } : Wrld).put c ((x.H c).emitF ((x.H c).ent sd) (((x.H c).cn sd).send l).2.2.1)
def Wrld.recv (x : Wrld) (c : Nat) (sd mx : Int) : Wrld := ({ x with H := upA x.H c ((x.H c).aft sd (((x.H c).cn sd).recv mx).1 (((x.H c).cn sd).recv mx).2.2.1), N := nReadL x.N (nFind x.N c sd) (((x.H c).cn sd).recv mx).2.1 } : Wrld).put c ((x.H c).emitF ((x.H c).ent sd) (((x.H c).cn sd).recv mx).2.2.1)
section
variable {w : W} {L : Nat → Ned} {x : Wrld} {k : Int}
/-- the caller's connection and its end -/
structure Ours (w : W) (L : Nat → Ned) (x : Wrld) (c : Nat) (sd : Int) (i : Nat) (e : En) : Prop where
  at_ : (w.H c).t.at sd = some e
  kind : e.kind = 2
  par : e.parent = 0
  slot : 0 ≤ e.slot ∧ e.slot < 4
  hi : i < w.n
  host : (w.N i).host = (c : Int)
  hsd : (w.N i).sd = sd
  row : w.row i e ((w.H c).cn sd)
  ent : (w.H c).ent sd = e
  info : (w.H c).infoC sd = ((w.H c).cn sd).info
  ok : ((w.H c).cn sd).Ok
  st : ((w.H c).cn sd).x.st ≠ 0
  find : nFind x.N c sd = (i : Int)
theorem Law.find (A : Law w L x k) {i : Nat} (hi : i < w.n) {c : Nat} (h1 : (w.N i).host = (c : Int)) {sd : Int} (h2 : (w.N i).sd = sd) : nFind x.N c sd = (i : Int) := by
  rw [A.N]
  refine LL_find hi ((A.ni i hi).c.id.host.trans h1) ((A.ni i hi).c.id.sd.trans h2) (fun j hj a b => ?_)
  have id := (A.ni j hj).c.id
  exact A.inv.uniq j i hj hi (by rw [← id.host, a, h1]) (by rw [← id.sd, b, h2])
theorem Law.ours (A : Law w L x k) {c : Nat} (c3 : c < 3) {sd : Int} (ho : (w.H c).oursB sd = true) : ∃ i e, Ours w L x c sd i e := by
  obtain ⟨e, he, hk, hp⟩ := Hst.ours_of ho
  obtain ⟨en1, er1⟩ := ent_of he
  obtain ⟨i, i1, i2, i3, i4, i5, r⟩ := A.inv.end_of c3 he hk
  have hcn : (w.H c).cn sd = (w.H c).c e.slot.toNat := by unfold Hst.cn; rw [en1]
  have ok := A.inv.row_c i1 r
  obtain ⟨ri, ri1, _, ri3, _⟩ := Tb.at_row he
  have st : ((w.H c).c e.slot.toNat).x.st ≠ 0 := by
    cases A.inv.sta i i1 e _ r with
    | syn cl pe o => have := o.st; omega
    | srv p cl pe o => have := o.st; omega
    | well p m rel wl =>
      rcases wl.st with q | q
      · have := q.1.st; omega
      · have := q.1; omega
    | bad st => omega
  refine ⟨i, e, he, hk, hp, ((A.inv.hi c c3).good.kindC ri1 ri3 (by omega)).slot, i1, i2, i3, by rw [hcn]; exact r, en1, ?_, by rw [hcn]; exact ok, by rw [hcn]; exact st, A.find i1 i2 i3⟩
  unfold Hst.infoC
  rw [en1, if_pos hk, hcn]
/-- SEND -/
theorem Law.send (A : Law w L x k) {c : Nat} (c3 : c < 3) (sd : Int) {l : List Int} (hl : Bytes l) :
    ((x.H c).oursB sd = true → 0 ≤ ((x.H c).ent sd).slot ∧ ((x.H c).ent sd).slot < 4) ∧ (x.H c).sendE sd l = (x.sendW c sd l.length).2 ∧ ((x.H c).sendE sd l ≠ 0 → (x.sendW c sd l.length).1 = 0 ∧ ∃ w' L3 z, Look x z ∧ Law w' L3 z (k + 1) ∧ CallW w L x w' L3 z ∧ CallE w w') ∧
    ((x.H c).sendE sd l = 0 → (((x.H c).cn sd).send l).2.1 = (x.sendW c sd l.length).1 ∧ nTook x.N (nFind x.N c sd) (((x.H c).cn sd).send l).2.1 l = true ∧ (((x.H c).emitF ((x.H c).ent sd) (((x.H c).cn sd).send l).2.2.1).countP firstFrag ≤ 12 ∧ ((x.H c).emitF ((x.H c).ent sd) (((x.H c).cn sd).send l).2.2.1).length ≤ 24) ∧ ∃ w' L3 z, Look (x.send c sd l) z ∧ Law w' L3 z (k + 1) ∧ CallW w L x w' L3 z ∧ CallE w w') := by
  have eH := A.H c c3
  have stay : ∃ w' L3 z, Look x z ∧ Law w' L3 z (k + 1) ∧ CallW w L x w' L3 z ∧ CallE w w' := by obtain ⟨L3, z, a, b⟩ := A.stay; exact ⟨w, L3, z, a, b⟩
  rw [eH]
  unfold Wrld.sendW Hst.sendE
  rw [eH]
  by_cases ho : (w.H c).oursB sd = true
  case neg =>
    rw [if_neg ho, if_neg ho]
    exact ⟨fun k => absurd k ho, rfl, fun _ => ⟨rfl, stay⟩, fun k => absurd k (by decide)⟩
  obtain ⟨i, e, O⟩ := A.ours c3 ho
  have ws := wantSend_eq O.ok O.st l
  rw [if_pos ho, if_pos ho, O.info, ws]
  refine ⟨fun _ => by rw [O.ent]; exact O.slot, rfl, fun hz => ⟨?_, stay⟩, fun hz => ?_⟩
  · show (((w.H c).cn sd).send l).2.1 = 0
    have hz : ¬ (((w.H c).cn sd).send l).2.2.2 = 0 := hz
    unfold Conn.send at hz ⊢
    repeat' split
    all_goals first | rfl | (rename_i q1 q2 q3 q4 q5; rw [if_neg q1, if_neg q2, if_neg q3, if_neg q4, if_neg q5] at hz; exact absurd rfl hz)
  obtain ⟨w', j, o, R, j1, j2, j3, j4, j5, j6, j7, j8, j9⟩ := A.inv.send A.syn c3 ho hl hz
  have hji : j = i := A.inv.uniq j i R.hi O.hi (j1.trans O.host.symm) (j2.trans O.hsd.symm)
  subst hji
  have NIj := A.ni j O.hi
  obtain ⟨g0, g1, g2, g3⟩ := NIj.row e _ O.row
  have hput : (((w.H c).cn sd).send l).2.1 ≤ 16 := by
    have hok := O.ok.s
    have := hok.sent0; have := hok.sentc; have := hok.count
    unfold Conn.send
    repeat' split
    all_goals first | (show (0 : Int) ≤ 16; decide) | (show ((w.H c).cn sd).s.putN l ≤ 16; unfold Sb.putN least; omega)
  have htk : nTook x.N (nFind x.N c sd) (((w.H c).cn sd).send l).2.1 l = true := by
    rw [O.find, A.N]
    unfold nTook
    rw [Int.toNat_natCast, LL_get O.hi]
    dsimp only
    have q1 : (L j).closed = false := by rw [NIj.c.closed]; exact j4
    have q2 : (L j).state = 3 := by rw [g1]; exact j5
    rw [q1, q2, decide_eq_true (by omega : (0 : Int) ≤ (j : Int)), decide_eq_true j6, decide_eq_true j7]; rfl
  obtain ⟨X, hX⟩ : ∃ X : Ned, X = { L j with sent := (L j).sent ++ l.take (((w.H c).cn sd).send l).2.1.toNat } := ⟨_, rfl⟩
  have hXe : X = { L j with sent := (w'.N j).sent, closed := (w'.N j).closed, rcvd := X.rcvd } := by
    rw [j3, hX, NIj.c.sent]
    have := NIj.c.closed
    cases hLj : L j with
    | mk a1 a2 a3 a4 a5 a6 a7 a8 a9 a10 a11 a12 a13 a14 a15 a16 => rw [hLj] at this; simp only at this; simp only [this]
  have hXr : X.rcvd = (L j).rcvd := by rw [hX]
  obtain ⟨S, hn⟩ := RowEff.call (del := x.dl) A.inv A.kc o R j1 A.ni hXe (by rw [j3]) (by rw [j3]; exact List.prefix_append _ _) (fun hc => by rw [j4] at hc; cases hc) (.inl hXr) (by rw [hXr, NIj.c.rdl, j8])
  have st := stage_of A.inv S.ends A.ni (.inl hn)
  have lb : ((w.H c).aft sd (((w.H c).cn sd).send l).1 (((w.H c).cn sd).send l).2.2.1).lost ≤ (w.H c).lost + 200 := by
    have := (w.H c).aft_lost sd (((w.H c).cn sd).send l).1 (((w.H c).cn sd).send l).2.2.1
    have := Conn.send_len O.ok l
    omega
  have seB : ∀ i, i < w'.n → ((w'.N i).sent.length : Int) ≤ 16 * (k + 1) := fun i hi => by
    rw [hn] at hi
    have := A.b.sent i hi
    by_cases hij : i = j
    · subst hij
      rw [j3]
      show (((w.N i).sent ++ l.take _).length : Int) ≤ _
      rw [List.length_append, List.length_take]; omega
    · rw [R.N i hij]; omega
  obtain ⟨P, c1, c2⟩ := A.preOut c3 o (by omega) S st lb A.wr A.wl (by omega) seB (fun j => by have := A.b.dl j; omega)
  have hN : nTaken x.N (nFind x.N c sd) (((w.H c).cn sd).send l).2.1 l = LL (upA L j X) w.n := by
    unfold nTaken
    rw [if_pos htk, O.find, A.N]
    unfold nUpd
    rw [Int.toNat_natCast, LL_get O.hi]
    dsimp only
    rw [if_pos (by omega), LL_set, ← hX]
  obtain ⟨z, L3, l1, l2, l3, l4, l5⟩ := A.look P
  have hkp : Keep w.n L L3 := fun i hi => by
    have h := l5 i hi
    by_cases hij : i = j
    · subst hij; rw [upA_at, hX] at h; exact h
    · rwa [upA_ne _ _ hij] at h
  have hcw := o.callW (x := x) (z := z) hkp l3 (by rw [l4]; rfl) (fun hh hh3 => Hst.aft_tab _ _ _ _)
  have hx : x.send c sd l = ({ x with H := upA x.H c ((w.H c).aft sd (((w.H c).cn sd).send l).1 (((w.H c).cn sd).send l).2.2.1), dl := x.dl, wr := x.wr, N := LL (upA L j X) w.n } : Wrld).put c ((w.H c).emitF ((w.H c).ent sd) (((w.H c).cn sd).send l).2.2.1) := by
    unfold Wrld.send; rw [eH, hN]
  exact ⟨rfl, htk, ⟨c1, c2⟩, w', L3, z, by rw [hx]; exact l1, l2, hcw, .row j R j9⟩
/-- RECV -/
theorem Law.recv (A : Law w L x k) {c : Nat} (c3 : c < 3) (sd mx : Int) :
    ((x.H c).oursB sd = true → ((x.H c).cn sd).x.st = 4 → ((x.H c).cn sd).x.why = 0 → ((x.H c).cn sd).x.peerFin = true) ∧ ((x.H c).oursB sd = true → 0 ≤ ((x.H c).ent sd).slot ∧ ((x.H c).ent sd).slot < 4) ∧ (x.H c).recvE sd mx = (x.recvW c sd mx).2 ∧ ((x.H c).recvE sd mx ≠ 0 → (x.recvW c sd mx).1 = 0 ∧ ((x.H c).recvE sd mx = 16 → nEOF x.N (nFind x.N c sd) = true) ∧ ∃ w' L3 z, Look x z ∧ Law w' L3 z (k + 1) ∧ CallW w L x w' L3 z ∧ CallE w w') ∧
    ((x.H c).recvE sd mx = 0 → ((((x.H c).cn sd).recv mx).2.1.length : Int) = (x.recvW c sd mx).1 ∧ nReadB x.N (nFind x.N c sd) (((x.H c).cn sd).recv mx).2.1 = true ∧ (((x.H c).emitF ((x.H c).ent sd) (((x.H c).cn sd).recv mx).2.2.1).countP firstFrag ≤ 12 ∧ ((x.H c).emitF ((x.H c).ent sd) (((x.H c).cn sd).recv mx).2.2.1).length ≤ 24) ∧ ∃ w' L3 z, Look (x.recv c sd mx) z ∧ Law w' L3 z (k + 1) ∧ CallW w L x w' L3 z ∧ CallE w w') := by
  have eH := A.H c c3
  have stay : ∃ w' L3 z, Look x z ∧ Law w' L3 z (k + 1) ∧ CallW w L x w' L3 z ∧ CallE w w' := by obtain ⟨L3, z, a, b⟩ := A.stay; exact ⟨w, L3, z, a, b⟩
  rw [eH]
  unfold Wrld.recvW Hst.recvE
  rw [eH]
  by_cases ho : (w.H c).oursB sd = true
  case neg =>
    rw [if_neg ho, if_neg ho]
    exact ⟨fun k => absurd k ho, fun k => absurd k ho, rfl, fun _ => ⟨rfl, fun k => absurd k (by decide), stay⟩, fun k => absurd k (by decide)⟩
  obtain ⟨i, e, O⟩ := A.ours c3 ho
  have ws := wantRecv_eq O.ok O.st mx
  have NIi := A.ni i O.hi
  rw [if_pos ho, if_pos ho, O.info, ws]
  have h4f : ((w.H c).cn sd).x.st = 4 → ((w.H c).cn sd).x.why = 0 → ((w.H c).cn sd).x.peerFin = true := fun h4 hw => by
    cases A.inv.sta i O.hi e _ O.row with
    | syn cl pe o => have := o.st; omega
    | srv p cl pe o => have := o.st; omega
    | bad st why => omega
    | well p m rel wl =>
      rcases wl.st with q | q
      · have := q.1.st; omega
      · rw [rel.pf]; exact q.2.2
  refine ⟨fun _ => h4f, fun _ => by rw [O.ent]; exact O.slot, rfl, fun hz => ⟨?_, fun h16 => ?_, stay⟩, fun hz => ?_⟩
  · have hz : ¬ (((w.H c).cn sd).recv mx).2.2.2 = 0 := hz
    show ((((w.H c).cn sd).recv mx).2.1.length : Int) = 0
    unfold Conn.recv at hz ⊢
    rw [if_neg O.st] at hz ⊢
    by_cases q1 : mx ≤ 0
    · rw [if_pos q1]; rfl
    rw [if_neg q1] at hz ⊢
    by_cases q2 : ((w.H c).cn sd).r.avail = 0
    · rw [if_pos q2]
      repeat' split
      all_goals rfl
    · rw [if_neg q2] at hz; exact absurd rfl hz
  · -- EOF tells the truth
    have h16 : (((w.H c).cn sd).recv mx).2.2.2 = 16 := h16
    have key : ((w.H c).cn sd).r.avail = 0 ∧ (((w.H c).cn sd).x.peerFin = true ∨ (((w.H c).cn sd).x.st = 4 ∧ ((w.H c).cn sd).x.why = 16)) := by
      unfold Conn.recv at h16
      by_cases q0 : ((w.H c).cn sd).x.st = 0
      · exact absurd q0 O.st
      rw [if_neg q0] at h16
      by_cases q1 : mx ≤ 0
      · rw [if_pos q1] at h16; exact absurd h16 (by decide : ¬ (24 : Int) = 16)
      rw [if_neg q1] at h16
      by_cases q2 : ((w.H c).cn sd).r.avail = 0
      · rw [if_pos q2] at h16
        refine ⟨q2, ?_⟩
        by_cases q3 : ((w.H c).cn sd).x.peerFin = true
        · exact .inl q3
        · rw [if_neg q3] at h16
          by_cases q4 : ((w.H c).cn sd).x.st = 4
          · rw [if_pos q4] at h16; exact .inr ⟨q4, h16⟩
          · rw [if_neg q4] at h16; exact absurd h16 (by decide : ¬ (14 : Int) = 16)
      · rw [if_neg q2] at h16; exact absurd h16 (by decide : ¬ (0 : Int) = 16)
    obtain ⟨av, hp⟩ := key
    have O2 := O.row
    cases A.inv.sta i O.hi e _ O.row with
    | syn cl pe o =>
      exfalso
      rcases hp with hp | ⟨hp, _⟩
      · rw [o.pf] at hp; cases hp
      · have := o.st; omega
    | srv p cl pe o t pa => exact absurd O.par pa
    | bad st why av' pf =>
      exfalso
      rcases hp with hp | ⟨_, hp⟩
      · rw [pf] at hp; cases hp
      · omega
    | well p m rel wl =>
      have hpf : (w.G i).pf = true := by
        rcases hp with hp | ⟨_, hp⟩
        · rw [← rel.pf]; exact hp
        · have := wl.why; omega
      obtain ⟨f1, f2⟩ := rel.pf1 hpf
      have gp := A.inv.gh p m.hp
      have cl := (gp.f1 f1).2
      have hpe : (L i).peer = (p : Int) := by rw [NIi.peer]; exact m.ip
      have hpre := NIi.c.pre p m
      have hrdl := NIi.c.rdl
      have hrdq := rel.rdq
      have hlen : (L i).rcvd.length = (w.N p).sent.length := by omega
      have heq : (L i).rcvd = (w.N p).sent := hpre.eq_of_length hlen
      unfold nEOF
      rw [O.find, A.N, LL_peer O.hi, hpe, LL_closed m.hp, LL_rcvd O.hi, LL_sent m.hp, (A.ni p m.hp).c.closed, (A.ni p m.hp).c.sent, cl, heq]
      unfold nHas
      rw [LL_len, decide_eq_true (by have := O.hi; omega : (0 : Int) ≤ (i : Int) ∧ (i : Int) < (w.n : Int)), decide_eq_true (by omega : (0 : Int) ≤ (p : Int))]
      simp
  obtain ⟨w', j, p, o, R, j1, j2, j3, j4, j5, m, j6, j7, j8, j9, j10, j11, j12, j13⟩ := A.inv.recv A.syn c3 ho hz
  have hji : j = i := A.inv.uniq j i R.hi O.hi (j1.trans O.host.symm) (j2.trans O.hsd.symm)
  subst hji
  have C := NIi.c
  have hrdl := C.rdl
  have hpre := C.pre p m
  have hgl : ((((w.H c).cn sd).recv mx).2.1.length : Int) = ((w.H c).cn sd).r.readN mx := by
    rw [j6, List.length_take, List.length_drop]; omega
  have hrd : ((w.G j).r - ((w.H c).cn sd).r.avail).toNat = (L j).rcvd.length := by omega
  have hcat : (L j).rcvd ++ (((w.H c).cn sd).recv mx).2.1 <+: (w.N p).sent := by
    obtain ⟨t, ht⟩ := hpre
    rw [j6, hrd, ← ht, List.drop_left]
    exact ⟨t.drop (((w.H c).cn sd).r.readN mx).toNat, by rw [List.append_assoc, List.take_append_drop]⟩
  obtain ⟨X, hX⟩ : ∃ X : Ned, X = { L j with rcvd := (L j).rcvd ++ (((w.H c).cn sd).recv mx).2.1 } := ⟨_, rfl⟩
  have hXr : X.rcvd = (L j).rcvd ++ (((w.H c).cn sd).recv mx).2.1 := by rw [hX]
  have hXe : X = { L j with sent := (w'.N j).sent, closed := (w'.N j).closed, rcvd := X.rcvd } := by
    rw [hXr, j3, hX, ← C.closed, ← C.sent]
  have hrl : (X.rcvd.length : Int) = (w'.G j).rd := by
    rw [hXr, List.length_append, j4]
    show (((L j).rcvd.length + _ : Nat) : Int) = (w.G j).rd + ((w.H c).cn sd).r.readN mx
    omega
  obtain ⟨S, hn⟩ := RowEff.call (del := x.dl) A.inv A.kc o R j1 A.ni hXe (by rw [j3]) (by rw [j3]; exact List.prefix_refl _) (fun _ => by rw [j3]) (.inr ⟨p, m, by rw [hXr]; exact hcat⟩) hrl
  have st := stage_of A.inv S.ends A.ni (.inl hn)
  have lb : ((w.H c).aft sd (((w.H c).cn sd).recv mx).1 (((w.H c).cn sd).recv mx).2.2.1).lost ≤ (w.H c).lost + 200 := by
    have := (w.H c).aft_lost sd (((w.H c).cn sd).recv mx).1 (((w.H c).cn sd).recv mx).2.2.1
    have := Conn.recv_len ((w.H c).cn sd) mx
    omega
  have seB : ∀ i, i < w'.n → ((w'.N i).sent.length : Int) ≤ 16 * (k + 1) := fun i hi => by
    rw [hn] at hi
    have := A.b.sent i hi
    by_cases hij : i = j
    · subst hij; rw [j3]; omega
    · rw [R.N i hij]; omega
  obtain ⟨P, c1, c2⟩ := A.preOut c3 o (by omega) S st lb A.wr A.wl (by omega) seB (fun j => by have := A.b.dl j; omega)
  have hN : nReadL x.N (nFind x.N c sd) (((w.H c).cn sd).recv mx).2.1 = LL (upA L j X) w.n := by
    unfold nReadL
    rw [O.find, A.N]
    unfold nUpd
    rw [Int.toNat_natCast, LL_get O.hi]
    dsimp only
    rw [if_pos (by omega), LL_set, ← hX]
  have hpj : p ≠ j := A.inv.mut_ne m
  have hrb : nReadB x.N (nFind x.N c sd) (((w.H c).cn sd).recv mx).2.1 = true := by
    unfold nReadB
    rw [hN, O.find, LL_rcvd O.hi, upA_at, hXr, A.N, LL_peer O.hi]
    have hpe : (L j).peer = (p : Int) := by rw [NIi.peer]; exact m.ip
    rw [hpe, LL_sent m.hp, upA_ne _ _ hpj, (A.ni p m.hp).c.sent]
    unfold nHas
    rw [LL_len, decide_eq_true (by have := O.hi; omega : (0 : Int) ≤ (j : Int) ∧ (j : Int) < (w.n : Int)), decide_eq_true (by omega : (0 : Int) ≤ (p : Int)), decide_eq_true (by omega : 0 < (((w.H c).cn sd).recv mx).2.1.length), decide_eq_true hcat]; rfl
  obtain ⟨z, L3, l1, l2, l3, l4, l5⟩ := A.look P
  have hkp : Keep w.n L L3 := fun i hi => by
    have h := l5 i hi
    by_cases hij : i = j
    · subst hij; rw [upA_at, hX] at h; exact h
    · rwa [upA_ne _ _ hij] at h
  have hcw := o.callW (x := x) (z := z) hkp l3 (by rw [l4]; rfl) (fun hh hh3 => Hst.aft_tab _ _ _ _)
  have hx : x.recv c sd mx = ({ x with H := upA x.H c ((w.H c).aft sd (((w.H c).cn sd).recv mx).1 (((w.H c).cn sd).recv mx).2.2.1), dl := x.dl, wr := x.wr, N := LL (upA L j X) w.n } : Wrld).put c ((w.H c).emitF ((w.H c).ent sd) (((w.H c).cn sd).recv mx).2.2.1) := by
    unfold Wrld.recv; rw [eH, hN]
  exact ⟨rfl, hrb, ⟨c1, c2⟩, w', L3, z, by rw [hx]; exact l1, l2, hcw, .row j R j13⟩
end
end Go.Proofs.Qxb6500351aGreat
