/- THE WORK, part 9: the wire of a calm settle. No Go in sight. -/
import Derived.Test.Qxb6500351aGreatFr10
set_option linter.unusedVariables false
set_option linter.unusedSimpArgs false
namespace Go.Proofs.Qxb6500351aGreat
open Go.Eng
/-! ### the packet layer's table behind what a host does -/
theorem Hst.sendH_tab (H : Hst) (dst : Int) (g : Seg) : (H.sendH dst g).p.tab = H.p.tab ∧ (H.sendH dst g).p.addr = H.p.addr := by unfold Hst.sendH; split <;> exact ⟨rfl, rfl⟩
theorem Hst.emitH_tab (e : En) : ∀ (l : List Seg) (H : Hst), (H.emitH e l).p.tab = H.p.tab ∧ (H.emitH e l).p.addr = H.p.addr
  | [], H => ⟨rfl, rfl⟩
  | g :: l, H => by
    simp only [Hst.emitH]
    obtain ⟨a, b⟩ := Hst.emitH_tab e l (H.sendH e.rHost (stamp e g))
    obtain ⟨c, d⟩ := H.sendH_tab e.rHost (stamp e g)
    exact ⟨a.trans c, b.trans d⟩
theorem Hst.inputH_tab (H : Hst) (raw : List Int) : (H.inputH raw).p.tab = (H.pIn raw).p.tab ∧ (H.inputH raw).p.addr = (H.pIn raw).p.addr := by
  unfold Hst.inputH
  split
  · exact ⟨rfl, rfl⟩
  · rename_i s g _
    unfold Hst.dispH
    split
    · exact Hst.emitH_tab _ _ _
    · split
      · unfold Hst.toLisH
        split
        · exact ⟨rfl, rfl⟩
        · exact Hst.emitH_tab _ _ _
      · split
        · exact ⟨rfl, rfl⟩
        · exact Hst.sendH_tab _ _ _
theorem Hst.tickH_tab : ∀ (l : List Int) (H : Hst), (H.tickH l).p.tab = H.p.tab ∧ (H.tickH l).p.addr = H.p.addr
  | [], H => ⟨rfl, rfl⟩
  | sd :: l, H => by
    simp only [Hst.tickH]
    obtain ⟨a, b⟩ := Hst.tickH_tab l (H.tickH1 sd)
    have : (H.tickH1 sd).p.tab = H.p.tab ∧ (H.tickH1 sd).p.addr = H.p.addr := by
      unfold Hst.tickH1
      split
      · exact Hst.emitH_tab _ _ _
      · exact ⟨rfl, rfl⟩
    exact ⟨a.trans this.1, b.trans this.2⟩
/-! ### lists of flights -/
/-- the flights bear these frames and are no older than a -/
structure Wx (l : List Flt) (fr : List (List Int)) (a : Int) : Prop where
  raw : l.map Flt.raw = fr
  age : ∀ f, f ∈ l → f.age ≤ a
def frs (P : List Rc) : List (List Int) := (P.map Rc.frames).flatten
theorem frs_app (P Q : List Rc) : frs (P ++ Q) = frs P ++ frs Q := by unfold frs; rw [List.map_append, List.flatten_append]
theorem frs_cons (r : Rc) (P : List Rc) : frs (r :: P) = r.frames ++ frs P := by unfold frs; rw [List.map_cons, List.flatten_cons]
def fresh (raw : List Int) : Flt := ⟨raw, 0, false⟩
theorem wPuts_all : ∀ (fr : List (List Int)) (l : List Flt), wSpill l fr = 0 → wPuts l fr = l ++ fr.map fresh
  | [], l, _ => by simp [wPuts]
  | raw :: fr, l, h => by
    simp only [wSpill] at h
    have h0 := wSpill_b (wPut l raw) fr
    have hl : ¬ 64 ≤ l.length := fun k => by rw [if_pos k] at h; omega
    rw [if_neg hl] at h
    simp only [wPuts]
    rw [wPuts_all fr (wPut l raw) (by omega)]
    unfold wPut
    rw [if_neg hl, List.append_assoc]; rfl
theorem Wx.app {l m : List Flt} {a b : List (List Int)} {n : Int} (h : Wx l a n) (k : Wx m b n) : Wx (l ++ m) (a ++ b) n :=
  ⟨by rw [List.map_append, h.raw, k.raw], fun f hf => (List.mem_append.1 hf).elim (h.age f) (k.age f)⟩
theorem Wx.fresh (fr : List (List Int)) : Wx (fr.map fresh) fr 0 :=
  ⟨by rw [List.map_map]; exact List.map_id fr, fun f hf => by
    obtain ⟨r, _, rfl⟩ := List.mem_map.1 hf
    exact Int.le_refl _⟩
theorem Wx.mono {l : List Flt} {fr : List (List Int)} {a b : Int} (h : Wx l fr a) (k : a ≤ b) : Wx l fr b := ⟨h.raw, fun f hf => by have := h.age f hf; omega⟩
theorem Wx.tick {l : List Flt} {fr : List (List Int)} (h : Wx l fr 0) : Wx (wTick l) fr 1 := by
  refine ⟨?_, fun f hf => ?_⟩
  · unfold wTick
    rw [List.map_map, ← h.raw]
    refine List.map_congr_left fun f _ => ?_
    show (wTick1 f).raw = f.raw
    unfold wTick1; split <;> rfl
  · obtain ⟨g, g1, rfl⟩ := List.mem_map.1 hf
    have := h.age g g1
    unfold wTick1
    rw [if_pos (by omega)]
    show g.age + 1 ≤ 1; omega
theorem wRest_cons (f : Flt) (l : List Flt) : wRest (f :: l) 0 = l := by
  unfold wRest wHas wRem
  simp
theorem wTake_cons (f : Flt) (l : List Flt) (h : f.age ≤ 4) : wTake (f :: l) 0 = some f.raw := by
  unfold wTake
  simp [h]
/-! ### the settle's state -/
section
variable (φ : Prop) (Ts R c : Int)
/-- the first piece of a record lies in its host's table -/
structure Hf (w : W) (r : Rc) (T0 : Int) : Prop where
  len : 16 < r.dgr.pay.length
  oth : ∀ h : Nat, h < 3 → r.dst ≠ (h : Int) + 1 → RAo (w.H h).p (dgs w.D) w.now T0
  own : ∀ h : Nat, h < 3 → r.dst = (h : Int) + 1 → (r.t ≤ T0 ∧ RAo (w.H h).p (dgs w.D) w.now T0) ∨ (T0 < r.t ∧ ∃ p0 : Ipt, p0.Ok ∧ p0.addr = (w.H h).addr ∧ RAo p0 (dgs w.D) w.now T0 ∧ (w.H h).p = (p0.inp r.dgr.p1).2.1)
structure Rcs (w : W) (P : List Rc) : Prop where
  d : ∀ r, r ∈ P → r ∈ w.D ∧ w.now ≤ r.t + 1
structure Rcq (w : W) (P : List Rc) : Prop where
  d : ∀ r, r ∈ P → r ∈ w.D ∧ w.now ≤ r.t
/-- what the wire bears before a frame is taken in a calm settle -/
inductive Cm (w : W) (P : List Rc) (fr : List (List Int)) (T0 : Int) : Prop where
  | whole (e : fr = frs P) (ra : ∀ h, h < 3 → RAo (w.H h).p (dgs w.D) w.now T0)
  | half (r : Rc) (P' : List Rc) (e1 : P = r :: P') (e : fr = r.f2 :: frs P') (hf : Hf w r T0)
/-- at a round's start -/
structure Bd (w : W) (L : Nat → Ned) (x : Wrld) : Prop where
  now : w.now = Ts + R
  R0 : 0 ≤ R
  c0 : 0 ≤ c ∧ c ≤ R
  bb : Bb w Ts
  bq : Bq w Ts
  wire : 1 ≤ c → ∃ P, Wx x.wr (frs P) 1 ∧ Rcs w P ∧ (∀ h, h < 3 → RAo (w.H h).p (dgs w.D) w.now (w.now - c)) ∧ (42 ≤ R → R ≤ c + 30 → Live w L P R) ∧ (φ → 9 ≤ R → c = R → MidT w L P [] R)
/-- within a round; sp, lo: the losses at its start; n: the frames to come -/
structure Mi (sp : Int) (lo : Nat → Int) (n : Nat) (w : W) (L : Nat → Ned) (x : Wrld) : Prop where
  now : w.now = Ts + R
  R0 : 0 ≤ R
  c0 : 0 ≤ c ∧ c ≤ R
  bb : Bb w Ts
  bq : Bq w Ts
  len : n ≤ x.wr.length
  spl : sp ≤ x.spilt
  los : ∀ h, h < 3 → lo h ≤ x.lost h
  wire : x.spilt = sp → (∀ h, h < 3 → x.lost h = lo h) → ∃ A B Q, x.wr = A ++ B ∧ A.length = n ∧ Wx B (frs Q) 0 ∧ Rcq w Q ∧ (1 ≤ c → ∃ P fr, Wx A fr 1 ∧ Rcs w P ∧ Cm w P fr (w.now - c) ∧ (42 ≤ R → R ≤ c + 30 → Mid w L P Q R) ∧ (φ → 9 ≤ R → c = R → MidT w L P Q R))
end
section
variable {φ : Prop} {Ts R c : Int} {w : W} {L : Nat → Ned} {x : Wrld} {k : Int}
theorem Bd.start (A : Law w L x k) : Bd φ w.now 0 0 w L x := ⟨by omega, Int.le_refl _, ⟨Int.le_refl _, Int.le_refl _⟩, Bb.start A.inv, Bq.start A.inv, fun h => by omega⟩
theorem Bd.mid (B : Bd φ Ts R c w L x) : Mi φ Ts R c x.spilt x.lost x.wr.length w L x := by
  refine ⟨B.now, B.R0, B.c0, B.bb, B.bq, Nat.le_refl _, Int.le_refl _, fun _ _ => Int.le_refl _, fun _ _ => ⟨x.wr, [], [], by simp, rfl, ⟨rfl, fun f hf => absurd hf (by simp)⟩, ⟨fun r hr => absurd hr (by simp)⟩, fun h1 => ?_⟩⟩
  obtain ⟨P, p1, p2, p3, p4⟩ := B.wire h1
  exact ⟨P, frs P, p1, p2, .whole rfl p3, fun h2 h3 => (p4.1 h2 h3).mid, p4.2⟩
/-- a frame that no host gets is passed over -/
theorem Mi.rest {sp : Int} {lo : Nat → Int} {n : Nat} (A : Law w L x k) (M : Mi φ Ts R c sp lo (n + 1) w L x) (hno : ∀ raw (d : Nat), wTake x.wr 0 = some raw → d < 3 → raw.getD 0 0 = (d : Int) + 1 → 0 < raw.length → False) : Mi φ Ts R c sp lo n w L { x with wr := wRest x.wr 0 } := by
  obtain ⟨f, l, hl⟩ : ∃ f l, x.wr = f :: l := by
    cases hx : x.wr with
    | nil => have := M.len; rw [hx] at this; simp at this
    | cons f l => exact ⟨f, l, rfl⟩
  refine ⟨M.now, M.R0, M.c0, M.bb, M.bq, ?_, M.spl, M.los, fun h1 h2 => ?_⟩
  · have := M.len
    rw [hl] at this
    show n ≤ (wRest x.wr 0).length
    rw [hl, wRest_cons]; simp at this; exact this
  obtain ⟨A', B, Q, q1, q2, q3, q4, q5⟩ := M.wire h1 h2
  obtain ⟨f', A'', hA⟩ : ∃ f' A'', A' = f' :: A'' := by
    cases hx : A' with
    | nil => rw [hx] at q2; simp at q2
    | cons f l => exact ⟨f, l, rfl⟩
  subst hA
  have hff : f = f' ∧ l = A'' ++ B := by rw [hl] at q1; simpa using q1
  obtain ⟨rfl, rfl⟩ := hff
  refine ⟨A'', B, Q, by show wRest x.wr 0 = _; rw [hl, wRest_cons], by simpa using q2, q3, q4, fun hc => ?_⟩
  obtain ⟨P, fr, p1, p2, p3, p4⟩ := q5 hc
  have hraw : fr = f.raw :: A''.map Flt.raw := by rw [← p1.raw]; rfl
  have hage : f.age ≤ 1 := p1.age f (List.mem_cons_self ..)
  have ht : wTake x.wr 0 = some f.raw := by rw [hl]; exact wTake_cons f _ (by omega)
  have far : ∀ r : Rc, f.raw ∈ r.frames → ¬ (1 ≤ r.dst ∧ r.dst ≤ 3) := fun r hr hd => by
    obtain ⟨h1, h2⟩ := Rc.head hr
    exact hno f.raw (r.dst - 1).toNat ht (by omega) (by omega) h2
  have hW : ∀ {g}, fr = f.raw :: g → Wx A'' g 1 := fun {g} hg => ⟨by rw [hraw] at hg; exact (List.cons.inj hg).2, fun f1 h1 => p1.age f1 (List.mem_cons_of_mem _ h1)⟩
  cases p3 with
  | half r P' e1 e hf =>
    subst e1
    have hr2 : r.f2 = f.raw := by rw [hraw] at e; exact (List.cons.inj e).1.symm
    have hd : ¬ (1 ≤ r.dst ∧ r.dst ≤ 3) := far r (by rw [Rc.frames_two hf.len, ← hr2]; simp)
    exact ⟨P', frs P', hW (by rw [e, hr2]), ⟨fun r1 h1 => p2.d r1 (List.mem_cons_of_mem _ h1)⟩, .whole rfl (fun h h3 => hf.oth h h3 (by omega)), fun h1 h2 => (p4.1 h1 h2).skip A.inv hd, fun f h1 h2 => (p4.2 f h1 h2).skip A.inv hd⟩
  | whole e ra =>
    cases P with
    | nil => rw [hraw] at e; exact absurd e (by simp [frs])
    | cons r P' =>
      rw [frs_cons] at e
      have rest : Rcs w P' := ⟨fun r1 h1 => p2.d r1 (List.mem_cons_of_mem _ h1)⟩
      by_cases hlen : r.dgr.pay.length ≤ 16
      · obtain ⟨f0, g1, _⟩ := Rc.frames_one hlen
        rw [g1] at e
        have hf0 : f0 = f.raw := by rw [hraw] at e; exact (List.cons.inj e).1.symm
        have hd : ¬ (1 ≤ r.dst ∧ r.dst ≤ 3) := far r (by rw [g1, hf0]; simp)
        exact ⟨P', frs P', hW (by rw [e, hf0]; rfl), rest, .whole rfl ra, fun h1 h2 => (p4.1 h1 h2).skip A.inv hd, fun f h1 h2 => (p4.2 f h1 h2).skip A.inv hd⟩
      · have g1 := Rc.frames_two (r := r) (by omega)
        rw [g1] at e
        have hf0 : r.f1 = f.raw := by rw [hraw] at e; exact (List.cons.inj e).1.symm
        have hd : ¬ (1 ≤ r.dst ∧ r.dst ≤ 3) := far r (by rw [g1, hf0]; simp)
        exact ⟨r :: P', r.f2 :: frs P', hW (by rw [e, hf0]; rfl), p2, .half r P' rfl rfl ⟨by omega, fun h h3 _ => ra h h3, fun h h3 hh => by omega⟩, p4⟩
/-- what a record does depends on its source and its segment -/
theorem Disp.congr {w w' : W} {h : Nat} {r r' : Rc} (h1 : r'.src = r.src) (h2 : r'.g = r.g) (d : Disp w w' h r) : Disp w w' h r' := by
  obtain ⟨a, b, c, e, f⟩ := d
  constructor
  · rw [h1, h2]; exact a
  · rw [h1, h2]; exact b
  · rw [h1, h2]; exact c
  · rw [h1, h2]; exact e
  · rw [h2]; exact f
/-- the wire and the losses behind a frame -/
structure InpW (w : W) (L : Nat → Ned) (x : Wrld) (k : Int) (d : Nat) (raw : List Int) (w' : W) (L3 : Nat → Ned) (z : Wrld) : Prop where
  ok : (∀ s g, (x.H d).DispOk s g) ∧ ((x.H d).inputF raw).length ≤ 24
  look : Look (x.input 0 d raw) z
  law : Law w' L3 z (k + 1)
  o : Out w w' d ((w.H d).inputH raw) ((w.H d).inputF raw) 3
  e : Eff w w' d
  wr : z.wr = wPuts (wRest x.wr 0) ((w.H d).inputF raw)
  sp : z.spilt = x.spilt + wSpill (wRest x.wr 0) ((w.H d).inputF raw)
  keep : Keep w.n L L3
  dsp : ∀ r : Rc, (w.H d).segIn raw = some (r.src, r.g) → Disp w w' d r
  nof : (w.H d).segIn raw = none → NoEff w w'
theorem Law.inpW (A : Law w L x k) (hk : k ≤ 1125899906842624) {raw : List Int} (ht : wTake x.wr 0 = some raw) {d : Nat} (d3 : d < 3) {w' : W} (o : Out w w' d ((w.H d).inputH raw) ((w.H d).inputF raw) 3) (e : Eff w w' d) (dsp : ∀ r : Rc, (w.H d).segIn raw = some (r.src, r.g) → Disp w w' d r) (nof : (w.H d).segIn raw = none → NoEff w w') : ∃ L3 z, InpW w L x k d raw w' L3 z := by
  obtain ⟨a, b, c, L3, z, l1, l2, l3, l4, l5⟩ := A.inputE hk ht d3 o e
  have eH := A.H d d3
  refine ⟨L3, z, ⟨⟨a, c⟩, l1, l2, o, e, ?_, ?_, l5, dsp, nof⟩⟩
  · rw [l3]; show wPuts (wRest x.wr 0) ((x.H d).inputF raw) = _; rw [eH]
  · rw [l4]; show x.spilt + wSpill (wRest x.wr 0) ((x.H d).inputF raw) = _; rw [eH]
end
section
variable {φ : Prop} {Ts R c : Int} {w w' : W} {L L3 : Nat → Ned} {x z : Wrld} {k : Int} {d : Nat} {raw : List Int}
theorem InpW.lost (J : InpW w L x k d raw w' L3 z) (A : Law w L x k) : ∀ h, h < 3 → x.lost h ≤ z.lost h := fun h h3 => by
  rw [A.lost h h3, J.law.lost h h3]
  by_cases hd : h = d
  · subst hd
    rw [J.o.hst]
    rcases J.o.lost with q | q <;> omega
  · rw [J.o.H h hd]; exact Int.le_refl _
theorem RAo.ofState {p : Ipt} {w : W} (I : Inv w) (ra : RA p (dgs w.D) w.now) : RAo p (dgs w.D) w.now w.now := RAo.of ra (fun d hd => by
  have h1 := (I.hist.ok d hd).2
  have h2 := (I.hT (d.src - 1).toNat).1
  have e2 : w.T d.src = (w.H (d.src - 1).toNat).clock := rfl
  rw [e2] at h1; omega)
theorem Rcs.next (o : Out w w' d ((w.H d).inputH raw) ((w.H d).inputF raw) 3) {P : List Rc} (h : Rcs w P) : Rcs w' P := ⟨fun r hr => by
  obtain ⟨Dn, d1, _⟩ := o.D
  obtain ⟨a, b⟩ := h.d r hr
  exact ⟨by rw [d1]; exact List.mem_append_left _ a, by rw [o.now]; exact b⟩⟩
/-- A FRAME COMES IN: what holds at any time -/
theorem Mi.common {sp : Int} {lo : Nat → Int} {n : Nat} (A : Law w L x k) (M : Mi φ Ts R c sp lo (n + 1) w L x) (J : InpW w L x k d raw w' L3 z) (hd : NoEff w w' ∨ ∃ r, Disp w w' d r)
    (hw : x.spilt = sp → (∀ h, h < 3 → x.lost h = lo h) → z.spilt = sp → (∀ h, h < 3 → z.lost h = lo h) → 1 ≤ c → ∃ A' B Q P fr, x.wr = A' ++ B ∧ A'.length = n + 1 ∧ Wx B (frs Q) 0 ∧ Rcq w Q ∧ (∀ f, f ∈ A' → f.age ≤ 1) ∧ Rcs w P ∧ fr = A'.tail.map Flt.raw ∧ Cm w' P fr (w'.now - c) ∧ ∀ Dn, w'.D = w.D ++ Dn → (42 ≤ R → R ≤ c + 30 → Mid w' L3 P (Q ++ Dn) R) ∧ (φ → 9 ≤ R → c = R → MidT w' L3 P (Q ++ Dn) R)) : Mi φ Ts R c sp lo n w' L3 z := by
  have E := Eff.ev A.inv J.e
  obtain ⟨Dn, d1, d2, d3, d4, d5⟩ := J.o.D
  obtain ⟨f, l, hl⟩ : ∃ f l, x.wr = f :: l := by
    cases hx : x.wr with
    | nil => have := M.len; rw [hx] at this; simp at this
    | cons f l => exact ⟨f, l, rfl⟩
  have hwr := J.wr
  have hsp := J.sp
  rw [hl, wRest_cons] at hwr hsp
  have hb := wSpill_b l ((w.H d).inputF raw)
  have hlen : n ≤ l.length := by have := M.len; rw [hl] at this; simpa using this
  have hll : ∀ (fr : List (List Int)) (m : List Flt), m.length ≤ (wPuts m fr).length := by
    intro fr
    induction fr with
    | nil => intro m; exact Nat.le_refl _
    | cons a fr ih =>
      intro m
      refine Nat.le_trans ?_ (ih (wPut m a))
      unfold wPut; split
      · exact Nat.le_refl _
      · simp
  refine ⟨by rw [J.o.now]; exact M.now, M.R0, M.c0, Bb.ev E M.bb, ?_, by rw [hwr]; exact Nat.le_trans hlen (hll _ _), by have := M.spl; omega, fun h h3 => by have := M.los h h3; have := J.lost A h h3; omega, fun s1 s2 => ?_⟩
  · refine Bq.inp (hh := d) A.inv A.syn J.law.inv E J.o.now M.bb M.bq ?_
    rcases hd with q | q
    · exact .inl fun i hi e c r => (q.rows i hi e c).1 r
    · exact .inr q
  have x1 : x.spilt = sp := by have := M.spl; omega
  have x2 : ∀ h, h < 3 → x.lost h = lo h := fun h h3 => by have := M.los h h3; have := J.lost A h h3; have := s2 h h3; omega
  have new : ∀ A' B Q, x.wr = A' ++ B → A'.length = n + 1 → Wx B (frs Q) 0 → Rcq w Q → z.wr = A'.tail ++ (B ++ ((w.H d).inputF raw).map fresh) ∧ A'.tail.length = n ∧ Wx (B ++ ((w.H d).inputF raw).map fresh) (frs (Q ++ Dn)) 0 ∧ Rcq w' (Q ++ Dn) := fun A' B Q q1 q2 q3 q4 => by
    obtain ⟨f', A'', hA⟩ : ∃ f' A'', A' = f' :: A'' := by
      cases hx : A' with
      | nil => rw [hx] at q2; simp at q2
      | cons f l => exact ⟨f, l, rfl⟩
    subst hA
    have hff : f = f' ∧ l = A'' ++ B := by rw [hl] at q1; simpa using q1
    obtain ⟨rfl, rfl⟩ := hff
    rw [wPuts_all _ _ (by omega)] at hwr
    refine ⟨by rw [hwr, List.append_assoc]; rfl, by simpa using q2, ?_, ⟨fun r hr => ?_⟩⟩
    · rw [frs_app]
      refine q3.app ?_
      have := Wx.fresh ((w.H d).inputF raw)
      rw [d2] at this ⊢
      exact this
    · rcases List.mem_append.1 hr with k1 | k1
      · obtain ⟨a, b⟩ := q4.d r k1
        exact ⟨by rw [d1]; exact List.mem_append_left _ a, by rw [J.o.now]; exact b⟩
      · exact ⟨by rw [d1]; exact List.mem_append_right _ k1, by rw [d5 r k1, J.o.now]; exact Int.le_refl _⟩
  by_cases hc : 1 ≤ c
  · obtain ⟨A', B, Q, P, fr, q1, q2, q3, q4, q5, q6, q7, q8, q9⟩ := hw x1 x2 s1 s2 hc
    obtain ⟨n1, n2, n3, n4⟩ := new A' B Q q1 q2 q3 q4
    exact ⟨A'.tail, _, Q ++ Dn, n1, n2, n3, n4, fun _ => ⟨P, fr, ⟨q7.symm, fun f1 h1 => q5 f1 (List.mem_of_mem_tail h1)⟩, Rcs.next J.o q6, q8, q9 Dn d1⟩⟩
  · obtain ⟨A', B, Q, q1, q2, q3, q4, _⟩ := M.wire x1 x2
    obtain ⟨n1, n2, n3, n4⟩ := new A' B Q q1 q2 q3 q4
    exact ⟨A'.tail, _, Q ++ Dn, n1, n2, n3, n4, fun k => absurd k hc⟩
end
end Go.Proofs.Qxb6500351aGreat
