/- FAIR WEATHER, part 3: a record meets its row. No Go in sight. -/
import Derived.Test.Qxb6500351aGreatFr2
set_option linter.unusedVariables false
set_option linter.unusedSimpArgs false
namespace Go.Proofs.Qxb6500351aGreat
open Go.Eng
/-! ### one connection, once more -/
theorem Conn.pump_st (c : Conn) : c.pump.1.x.st = c.x.st := by
  have hF : ∀ (f : Nat) (c : Conn), (Conn.pumpF f c).1.x.st = c.x.st := by
    intro f
    induction f with
    | zero => intro c; rfl
    | succ f ih =>
      intro c
      unfold Conn.pumpF
      split
      · rfl
      · show (Conn.pumpF f c.pumpC).1.x.st = _
        rw [ih]
        exact (Cs.arm_same ({ c.x with credit := c.x.credit - c.pumpN } : Cs)).1
  unfold Conn.pump
  split
  · show c.pumpL.1.pumpE.1.x.st = _
    have e1 : c.pumpL.1.x.st = c.x.st := hF _ c
    unfold Conn.pumpE
    split
    · exact (Cs.arm_same _).1.trans e1
    · exact e1
  · rfl
theorem Conn.inAck_st (c : Conn) (s : Seg) : (c.inAck s).1.x.st = c.x.st ∨ ((c.inAck s).1.x.st = 4 ∧ (c.inAck s).1.x.quiet = 10) := by
  have ha : (c.acked s).2.x.st = c.x.st := by
    simp only [Conn.acked]
    repeat' split
    · rfl
    · rfl
    · rfl
    · unfold Conn.ackd
      split
      · exact (Cs.arm_same (c.ack0 (seqDiff s.ack c.sndUna) s.wnd).x).1
      · rfl
  unfold Conn.inAck
  split
  · exact .inl ha
  · have hd : ((c.acked s).2.inData s).1.pump.1.x.st = c.x.st := by
      rw [Conn.pump_st]
      unfold Conn.inData
      split
      · exact ((c.acked s).2.take_x s).2.2.2.2.trans ha
      · exact ha
    dsimp only
    unfold Conn.goodEnd
    split
    · exact .inr ⟨rfl, rfl⟩
    · exact .inl hd
/-- what a segment that is no refusal does to the state -/
theorem Conn.input_st (c : Conn) {s : Seg} (hf : s.flags / 8 * 8 = 0) : (c.input s).1.x.st = c.x.st ∨ ((c.input s).1.x.st = 3 ∧ (c.x.st = 1 ∨ c.x.st = 2)) ∨ ((c.input s).1.x.st = 4 ∧ (c.input s).1.x.quiet = 10) := by
  unfold Conn.input
  split
  · exact .inl rfl
  split
  · rename_i q1
    unfold Conn.inSynSent
    split
    · exact .inl rfl
    · split
      · exact .inl rfl
      · exact .inr (.inl ⟨rfl, .inl q1⟩)
  split
  · unfold Conn.inSync
    rw [if_neg (fun k => k hf)]
    split
    · exact .inl rfl
    split
    · exact .inl rfl
    split
    · rename_i q2
      split
      · exact .inl rfl
      · rcases Conn.inAck_st c.opened s with k | k
        · exact .inr (.inl ⟨k.trans rfl, .inr q2⟩)
        · exact .inr (.inr k)
    · rcases Conn.inAck_st c s with k | k
      · exact .inl k
      · exact .inr (.inr k)
  · exact .inl rfl
theorem Conn.input_ack {c : Conn} {s : Seg} (f1 : s.flags / 8 * 8 = 0) (f2 : s.flags % 2 = 0) (f3 : ¬ s.flags / 2 % 2 * 2 = 0) : (c.x.st = 3 → c.input s = c.inAck s) ∧ (c.x.st = 2 → s.ack = seqAdd c.x.iss 1 → c.input s = c.opened.inAck s) := by
  refine ⟨fun st => ?_, fun st ha => ?_⟩
  · unfold Conn.input
    rw [if_neg (by omega), if_neg (by omega), if_pos (.inr st), inSync_ack f1 f2 f3 (by omega)]
  · unfold Conn.input
    rw [if_neg (by omega), if_neg (by omega), if_pos (.inl st), inSync_opened f1 f2 f3 st ha]
theorem SBare.fl {s : Seg} (h : SBare s) : s.flags / 8 * 8 = 0 ∧ s.flags % 2 = 0 ∧ ¬ s.flags / 2 % 2 * 2 = 0 := by rw [h.1]; decide
theorem SBare.stamp {s : Seg} (h : SBare s) (e : En) : SBare (stamp e s) := ⟨h.1, h.2⟩
theorem bare_frame {r : Rc} (h : r.g.data = []) : ∃ f, r.frames = [f] := by
  obtain ⟨f, h1, _⟩ := Rc.frames_one (r := r) (by show (segEnc r.src r.dst r.g).length ≤ 16; rw [segEnc_len, h]; decide)
  exact ⟨f, h1⟩
/-! ### what a record does that meets a row -/
structure HitE (w w' : W) (t : Nat) (e0 : En) (c0 : Conn) (r : Rc) (Dn : List Rc) : Prop where
  n : w'.n = w.n
  row : ∃ e1, w'.row t e1 (c0.input r.g).1
  rows : ∀ j, j < w.n → j ≠ t → ∀ e c, w'.row j e c ↔ w.row j e c
  only : ∀ r', r' ∈ Dn → ∃ s, s ∈ (c0.input r.g).2 ∧ r'.g = stamp e0 s
  all : ∀ s, s ∈ (c0.input r.g).2 → ∃ r', r' ∈ Dn ∧ r'.src = (w.N t).host + 1 ∧ r'.dst = e0.rHost ∧ r'.g = stamp e0 s
section
variable {w w' : W} {h : Nat} {r : Rc} {Dn : List Rc}
theorem DStep.hitE (d : DStep w w' h r Dn) {t : Nat} (ht : t < w.n) {e0 : En} {c0 : Conn} (rt : w.row t e0 c0) (hh : (w.N t).host = (h : Int)) (tu : e0.tup r.g.dp r.src r.g.sp) : HitE w w' t e0 c0 r Dn := by
  obtain ⟨⟨e1, a1⟩, a2⟩ := d.disp.hit t e0 c0 ht hh rt tu
  obtain ⟨b1, b2⟩ := d.disp.only t e0 c0 ht hh rt tu
  refine ⟨b1, ⟨e1, a1⟩, fun j hj hjt e c => ?_, b2 Dn d.D, fun s hs => by rw [hh]; exact a2 Dn d.D d.lost s hs⟩
  have fwd : ∀ e c, w.row j e c → w'.row j e c := fun e c rj => by
    refine d.disp.miss j e c hj rj ?_
    rintro ⟨k1, k2⟩
    have a := d.I.tup j hj e c rj
    have b := d.I.tup t ht e0 c0 rt
    exact hjt (d.I.last hj ht rj rt ⟨k1.trans hh.symm, a.1.symm.trans (k2.1.trans (tu.1.symm.trans b.1)), a.2.1.symm.trans (k2.2.1.trans (tu.2.1.symm.trans b.2.1)), a.2.2.symm.trans (k2.2.2.trans (tu.2.2.symm.trans b.2.2))⟩)
  refine ⟨fun rj => ?_, fwd e c⟩
  obtain ⟨e2, c2, r2, _⟩ := d.ev.op j e c hj rj
  obtain ⟨q1, q2⟩ := rj.inj (fwd e2 c2 r2)
  rw [q1, q2]; exact r2
/-- an acknowledgement up to a, at an open end that stays open -/
theorem DStep.ackA (d : DStep w w' h r Dn) {s v : Nat} (m : w.mut s v) {e : En} {c : Conn} (rs : w.row s e c) (rel : Rel c (w.G s) (w.N s).sent (w.G v) (w.N v).sent) (rn : Run c (w.G s)) (to : ToS w r s) (hb : r.g.flags = 2) {a : Int} (ha : r.g.ack = ((w.G s).iss + 1 + a) % 256) (h1 : (w.G s).U ≤ a) (h2 : a ≤ (w.G s).X) {e' : En} {c' : Conn} (rs' : w'.row s e' c') : c'.x.retries = 0 ∧ (c'.x.st = 3 → (w'.G s).U = a) := by
  have I := d.I
  obtain ⟨hh, tu⟩ := I.hits m.hi rs to d.hd
  obtain ⟨⟨e1, r1⟩, _⟩ := d.disp.hit s e c m.hi hh rs tu
  have hc' := (rs'.inj r1).2
  have f1 : r.g.flags / 8 * 8 = 0 := by rw [hb]; decide
  have f2 : r.g.flags % 2 = 0 := by rw [hb]; decide
  have f3 : ¬ r.g.flags / 2 % 2 * 2 = 0 := by rw [hb]; decide
  rw [(Conn.input_ack f1 f2 f3).1 rn.st] at hc'
  obtain ⟨_, uX, uu⟩ := rel.UX
  refine ⟨by rw [hc']; exact rel.rtIn rn (I.gok r d.hr) ha h2 h1, fun st' => ?_⟩
  rw [hc'] at st'
  obtain ⟨t1, _⟩ := rel.tmIn rn (I.gok r d.hr) ha h2 (by omega) st'
  rw [← hc'] at t1 st'
  rw [show max (w.G s).U a = a by omega] at t1
  exact I.U_eq d.I' d.ev m rs rn.st rs' st' ⟨h1, by omega⟩ t1
end
/-! ### new frames -/
def frp (D : List Rc) : List Fly := (D.map fun r => r.frames.map (Prod.mk r)).flatten
theorem frp_snd : ∀ D : List Rc, (frp D).map Prod.snd = (D.map Rc.frames).flatten
  | [] => rfl
  | r :: D => by
    have ih := frp_snd D
    unfold frp at ih ⊢
    rw [List.map_cons, List.flatten_cons, List.map_append, ih, List.map_cons, List.flatten_cons]
    congr 1
    rw [List.map_map]
    exact List.map_id' _
theorem frp_mem {D : List Rc} {p : Fly} : p ∈ frp D ↔ p.1 ∈ D ∧ p.2 ∈ p.1.frames := by
  unfold frp
  constructor
  · intro h
    obtain ⟨l, h1, h2⟩ := List.mem_flatten.1 h
    obtain ⟨r, h3, rfl⟩ := List.mem_map.1 h1
    obtain ⟨f, h4, rfl⟩ := List.mem_map.1 h2
    exact ⟨h3, h4⟩
  · rintro ⟨h1, h2⟩
    exact List.mem_flatten.2 ⟨_, List.mem_map.2 ⟨p.1, h1, rfl⟩, List.mem_map.2 ⟨p.2, h2, rfl⟩⟩
theorem frp_nil : frp [] = [] := rfl
/-! ### tokens -/
section
variable {w w' : W} {s v : Nat}
theorem fin_X (E : Ev w w') (I : Inv w) (I' : Inv w') (m : w.mut s v) (hp : (w.G v).pf = true) : (w'.G s).X = (w.G s).X ∧ (w.G s).X = (w.N s).sent.length + 1 ∧ (w.G s).f = true := by
  have hf := ((I.pair s v m).pf hp).1
  have hf' := (E.g s m.hi).1.f hf
  have x1 := ((I.gh s m.hi).f1 hf).1
  have x2 := ((I'.gh s (E.mut m).hi).f1 hf').1
  rw [(E.se s m.hi).1] at x2
  refine ⟨?_, ?_, hf⟩
  · unfold Gh.X; rw [hf, hf', x1, x2]
  · unfold Gh.X; rw [hf, x1]; rfl
theorem FinTok.ev (E : Ev w w') (I : Inv w) (I' : Inv w') (m : w.mut s v) (hp : (w.G v).pf = true) {p : Fly} (t : FinTok w s p) : FinTok w' s p :=
  ⟨t.b, t.to.ev E m.hi, by rw [(E.g s m.hi).1.iss, (fin_X E I I' m hp).1]; exact t.ack⟩
theorem OpTok.ev (E : Ev w w') (hs : s < w.n) {p : Fly} (t : OpTok w s p) : OpTok w' s p := ⟨t.b, t.to.ev E hs, by rw [(E.g s hs).1.iss]; exact t.ack⟩
/-- a frame goes to one end alone -/
theorem ToS.ne (I : Inv w) (m : w.mut s v) {r : Rc} (a : ToS w r s) (b : ToS w r v) : False := by
  have hc := I.mut_cl m
  have p1 := I.ports s m.hi
  have p2 := I.ports v m.hp
  have e := a.dp.symm.trans b.dp
  cases hs : (w.N s).client with
  | true =>
    rw [hs] at hc
    have hv : (w.N v).client = false := by cases h : (w.N v).client with
      | false => rfl
      | true => rw [h] at hc; cases hc
    have := p1.2.2.1 hs; have := (p2.2.2.2 hv).1; omega
  | false =>
    rw [hs] at hc
    have hv : (w.N v).client = true := by cases h : (w.N v).client with
      | true => rfl
      | false => rw [h] at hc; cases hc
    have := p2.2.2.1 hv; have := (p1.2.2.2 hs).1; omega
/-- an answer goes back -/
theorem ToS.back (I : Inv w) (m : w.mut s v) {e0 : En} {c0 : Conn} (rv : w.row v e0 c0) {r : Rc} {g : Seg} (h1 : r.src = (w.N v).host + 1) (h2 : r.dst = e0.rHost) (h3 : r.g = stamp e0 g) : ToS w r s := by
  obtain ⟨m1, m2, m3, m4⟩ := I.mir_of_mut m.symm
  obtain ⟨t1, t2, t3⟩ := I.tup v m.hp e0 c0 rv
  refine ⟨by rw [h2, t2]; exact m1.symm, by rw [h1]; exact m2, ?_, ?_⟩
  · rw [h3]; show e0.rPort = _; rw [t3]; exact m4
  · rw [h3]; show e0.lPort = _; rw [t1]; exact m3
/-- a child that opens has heard of nothing -/
theorem R_zero (I : Inv w) (m : w.mut s v) (z : w.G v = Gh.new (w.G v).iss (w.G v).b) : (w.G s).R = 0 ∧ (w.G s).pf = false ∧ (w.G v).f = false ∧ (w.G v).pf = false ∧ (w.G v).fa = false := by
  have pr := I.pair v s m.symm
  have hf : (w.G v).f = false := by rw [z]; rfl
  have hx : (w.G v).x = 0 := by rw [z]; rfl
  have hp : (w.G s).pf = false := by
    cases h : (w.G s).pf with
    | false => rfl
    | true => have := (pr.pf h).1; rw [hf] at this; cases this
  have r0 := (I.gh s m.hi).r0
  have r1 := pr.rx
  refine ⟨?_, hp, hf, by rw [z]; rfl, by rw [z]; rfl⟩
  unfold Gh.R; rw [hp]
  show (w.G s).r + 0 = 0; omega
end
end Go.Proofs.Qxb6500351aGreat
