/- THE WORK, part 11: a round's end, a settle's end. No Go in sight. -/
import Derived.Test.Qxb6500351aGreatLv10
set_option linter.unusedVariables false
set_option linter.unusedSimpArgs false
namespace Go.Proofs.Qxb6500351aGreat
open Go.Eng
section
variable {φ : Prop} {Ts R c : Int} {w w1 w2 w3 w' : W} {L L3 : Nat → Ned} {x z : Wrld} {k : Int}
theorem Wrld.tick1_H (x : Wrld) (d j : Nat) (h : j ≠ d) : (x.tick1 d).H j = x.H j := upA_ne _ _ h
theorem frs_nil {P : List Rc} (h : frs P = []) : P = [] := by
  cases P with
  | nil => rfl
  | cons r P =>
    rw [frs_cons] at h
    have h1 := (List.append_eq_nil_iff.1 h).1
    by_cases hlen : r.dgr.pay.length ≤ 16
    · obtain ⟨f0, g1, _⟩ := Rc.frames_one hlen
      rw [g1] at h1; exact absurd h1 (by simp)
    · rw [Rc.frames_two (by omega)] at h1; exact absurd h1 (by simp)
/-- what a tick leaves on the wire -/
structure TickW (w w' : W) (x z : Wrld) (Dn : List Rc) : Prop where
  D : w'.D = w.D ++ Dn
  t : ∀ r, r ∈ Dn → r.t = w.now + 1
  wr : z.spilt = x.spilt → z.wr = wTick x.wr ++ (frs Dn).map fresh
  sp : x.spilt ≤ z.spilt
  tab : ∀ h, h < 3 → (w'.H h).p.tab = (w.H h).p.tick.tab ∧ (w'.H h).p.addr = (w.H h).p.addr
  lost : ∀ h, h < 3 → (w.H h).lost ≤ (w'.H h).lost
theorem Law.tickW (A : Law w L x k) (T : WTick w w1 w2 w3 w') (h1 : z.wr = (((x.tick0.tick1 0).tick1 1).tick1 2).wr) (h2 : z.spilt = (((x.tick0.tick1 0).tick1 1).tick1 2).spilt) : ∃ Dn, TickW w w' x z Dn := by
  obtain ⟨D1, a1, a2, _, _, a5⟩ := T.t0.D
  obtain ⟨D2, b1, b2', _, _, b5⟩ := T.t1.D
  obtain ⟨D3, c1, c2, _, _, c5⟩ := T.t2.D
  have e1 : w1.H 1 = w.H 1 := T.t0.go.H 1 (by omega)
  have e2 : w2.H 2 = w.H 2 := (T.t1.go.H 2 (by omega)).trans (T.t0.go.H 2 (by omega))
  have eH : w'.H = w3.H := by rw [T.e]
  have n1 := T.t0.go.now; have n2 := T.t1.go.now; have n3 := T.t2.go.now
  have H0 := A.H 0 (by omega); have H1 := A.H 1 (by omega); have H2 := A.H 2 (by omega)
  have f0 : (x.H 0).tick0.tickF (x.H 0).t.list = frs D1 := by rw [H0]; exact a2
  have f1 : ((x.tick0.tick1 0).H 1).tick0.tickF ((x.tick0.tick1 0).H 1).t.list = frs D2 := by
    have : (x.tick0.tick1 0).H 1 = w1.H 1 := by
      rw [Wrld.tick1_H _ _ _ (by decide), e1]; exact H1
    rw [this]; exact b2'
  have f2 : (((x.tick0.tick1 0).tick1 1).H 2).tick0.tickF (((x.tick0.tick1 0).tick1 1).H 2).t.list = frs D3 := by
    have : ((x.tick0.tick1 0).tick1 1).H 2 = w2.H 2 := by
      rw [Wrld.tick1_H _ _ _ (by decide), Wrld.tick1_H _ _ _ (by decide), e2]; exact H2
    rw [this]; exact c2
  have hw : (((x.tick0.tick1 0).tick1 1).tick1 2).wr = wPuts (wPuts (wPuts (wTick x.wr) (frs D1)) (frs D2)) (frs D3) := by
    show wPuts (wPuts (wPuts (wTick x.wr) ((x.H 0).tick0.tickF (x.H 0).t.list)) (((x.tick0.tick1 0).H 1).tick0.tickF ((x.tick0.tick1 0).H 1).t.list)) ((((x.tick0.tick1 0).tick1 1).H 2).tick0.tickF (((x.tick0.tick1 0).tick1 1).H 2).t.list) = _
    rw [f0, f1, f2]
  have hs : (((x.tick0.tick1 0).tick1 1).tick1 2).spilt = x.spilt + wSpill (wTick x.wr) (frs D1) + wSpill (wPuts (wTick x.wr) (frs D1)) (frs D2) + wSpill (wPuts (wPuts (wTick x.wr) (frs D1)) (frs D2)) (frs D3) := by
    show x.spilt + wSpill (wTick x.wr) ((x.H 0).tick0.tickF (x.H 0).t.list) + wSpill (wPuts (wTick x.wr) ((x.H 0).tick0.tickF (x.H 0).t.list)) (((x.tick0.tick1 0).H 1).tick0.tickF ((x.tick0.tick1 0).H 1).t.list) + wSpill (wPuts (wPuts (wTick x.wr) ((x.H 0).tick0.tickF (x.H 0).t.list)) (((x.tick0.tick1 0).H 1).tick0.tickF ((x.tick0.tick1 0).H 1).t.list)) ((((x.tick0.tick1 0).tick1 1).H 2).tick0.tickF (((x.tick0.tick1 0).tick1 1).H 2).t.list) = _
    rw [f0, f1, f2]
  have s1 := wSpill_b (wTick x.wr) (frs D1)
  have s2 := wSpill_b (wPuts (wTick x.wr) (frs D1)) (frs D2)
  have s3 := wSpill_b (wPuts (wPuts (wTick x.wr) (frs D1)) (frs D2)) (frs D3)
  have tk : ∀ (H : Hst) (l : List Int), (H.tick0.tickH l).p.tab = H.p.tick.tab ∧ (H.tick0.tickH l).p.addr = H.p.addr := fun H l => by
    obtain ⟨a, b⟩ := Hst.tickH_tab l H.tick0
    exact ⟨a, b⟩
  have g0 : w'.H 0 = (w.H 0).tick0.tickH (w.H 0).t.list := by rw [eH, T.t2.go.H 0 (by omega), T.t1.go.H 0 (by omega)]; exact T.t0.hst
  have g1 : w'.H 1 = (w.H 1).tick0.tickH (w.H 1).t.list := by rw [eH, T.t2.go.H 1 (by omega), ← e1]; exact T.t1.hst
  have g2 : w'.H 2 = (w.H 2).tick0.tickH (w.H 2).t.list := by rw [eH, ← e2]; exact T.t2.hst
  have lo : ∀ (H : Hst) (l : List Int), H.lost ≤ (H.tick0.tickH l).lost := fun H l => (Hst.tickH_lost l H.tick0).1
  have all3 : ∀ h, h < 3 → w'.H h = (w.H h).tick0.tickH (w.H h).t.list := fun h h3 => by
    have : h = 0 ∨ h = 1 ∨ h = 2 := by omega
    rcases this with rfl | rfl | rfl
    · exact g0
    · exact g1
    · exact g2
  refine ⟨D1 ++ (D2 ++ D3), ⟨?_, fun r hr => ?_, fun hz => ?_, by omega, fun h h3 => by rw [all3 h h3]; exact tk _ _, fun h h3 => by rw [all3 h h3]; exact lo _ _⟩⟩
  · rw [T.e]; show w3.D = _; rw [c1, b1, a1]; simp
  · rcases List.mem_append.1 hr with q | q
    · exact a5 r q
    · rcases List.mem_append.1 q with q | q
      · rw [b5 r q, n1]
      · rw [c5 r q, n2, n1]
  · rw [h1, hw, wPuts_all _ _ (by omega), wPuts_all _ _ (by omega), wPuts_all _ _ (by omega), frs_app, frs_app, List.map_append, List.map_append, List.append_assoc, List.append_assoc]
/-- what fair weather lends to a tick -/
structure Lend (φ : Prop) (R c : Int) (w : W) (L : Nat → Ned) (x : Wrld) (sp : Int) (lo : Nat → Int) : Prop where
  nf : φ → c = R → x.spilt = sp → (∀ h, h < 3 → x.lost h = lo h) → NfA w L ∧ (R ≤ 8 → Early w R)
  row : φ → c = R → x.spilt = sp → (∀ h, h < 3 → x.lost h = lo h) → ∀ w1 w2 w3 w' L3 Dn, WTick w w1 w2 w3 w' → (∀ i, i < w'.n → NetI w' L3 i) → Keep w.n L L3 → w'.D = w.D ++ Dn → (∀ r, r ∈ Dn → r.t = w.now + 1) → NoTo w → Dn ≠ [] → ∀ s v, w'.mut s v → (∃ e c, w'.row s e c) → ∃ e c, w'.row v e c
theorem Lend.no {R c : Int} {w : W} {L : Nat → Ned} {x : Wrld} {sp : Int} {lo : Nat → Int} : Lend False R c w L x sp lo := ⟨fun f => f.elim, fun f => f.elim⟩
/-- A ROUND's END -/
theorem Mi.tick {sp : Int} {lo : Nat → Int} (A : Law w L x k) (M : Mi φ Ts R c sp lo 0 w L x) (F : Lend φ R c w L x sp lo) : (∀ d, d < 3 → ((x.H d).tick0.tickOk (x.H d).t.list) ∧ ((x.H d).tick0.tickF (x.H d).t.list).countP firstFrag ≤ 12 ∧ ((x.H d).tick0.tickF (x.H d).t.list).length ≤ 24) ∧
    ∃ w' L3 z, Look (((x.tick0.tick1 0).tick1 1).tick1 2) z ∧ Law w' L3 z (k + 1) ∧ Bd φ Ts (R + 1) 0 w' L3 z ∧ (z.spilt = sp → (∀ h, h < 3 → z.lost h = lo h) → Bd φ Ts (R + 1) (c + 1) w' L3 z) ∧ ∃ w1 w2 w3 Dn, WTick w w1 w2 w3 w' ∧ TickW w w' x z Dn ∧ Keep w.n L L3 ∧ (φ → c = R → x.spilt = sp → (∀ h, h < 3 → x.lost h = lo h) → NoTo w) := by
  obtain ⟨w1, w2, w3, w', T⟩ := A.inv.wtick A.syn
  obtain ⟨fo, L3, z, l1, l2, l3, l4, l5⟩ := A.ticksE T
  obtain ⟨Dn, TW⟩ := A.tickW (z := z) T l3 l4
  have E := T.ev
  have hR := M.R0
  have hc := M.c0
  have now' : w'.now = Ts + (R + 1) := by rw [T.now, M.now]; omega
  have bb := Bb.ev E M.bb
  have bq := Bq.tick A.inv A.syn T M.bb M.bq
  have noto : φ → c = R → x.spilt = sp → (∀ h, h < 3 → x.lost h = lo h) → NoTo w := fun f hcR x1 x2 => by
    obtain ⟨nf, er⟩ := F.nf f hcR x1 x2
    by_cases h8 : R ≤ 8
    · exact (er h8).noto
    · obtain ⟨A', B, Q, q1, q2, q3, q4, q5⟩ := M.wire x1 x2
      obtain ⟨P, fr, p1, _, p3, p4⟩ := q5 (by omega)
      have hA : A' = [] := List.eq_nil_of_length_eq_zero q2
      have hfr : fr = [] := by rw [← p1.raw, hA]; rfl
      have hP : P = [] := by
        cases p3 with
        | half r P' f1 f2 _ => rw [hfr] at f2; exact absurd f2 (by simp)
        | whole f2 ra => exact frs_nil (f2.symm.trans hfr)
      subst hP
      exact (p4.2 f (by omega) hcR).noto A.inv A.ni nf
  refine ⟨fo, w', L3, z, l1, l2, ⟨now', by omega, by omega, bb, bq, fun h => by omega⟩, fun z1 z2 => ⟨now', by omega, by omega, bb, bq, fun _ => ?_⟩, w1, w2, w3, Dn, T, TW, l5, noto⟩
  have lostW : ∀ h, h < 3 → z.lost h = (w'.H h).lost ∧ x.lost h = (w.H h).lost := fun h h3 => ⟨l2.lost h h3, A.lost h h3⟩
  have x1 : x.spilt = sp := by have := M.spl; have := TW.sp; omega
  have x2 : ∀ h, h < 3 → x.lost h = lo h := fun h h3 => by
    have := M.los h h3; have := TW.lost h h3; have := z2 h h3; have := lostW h h3; omega
  obtain ⟨A', B, Q, q1, q2, q3, q4, q5⟩ := M.wire x1 x2
  have hA : A' = [] := List.eq_nil_of_length_eq_zero q2
  subst hA
  rw [List.nil_append] at q1
  have hl : ∀ h, h < 3 → (w'.H h).lost = (w.H h).lost := fun h h3 => by
    have := lostW h h3; have := z2 h h3; have := x2 h h3; omega
  have more : ∀ g, g ∈ dgs w.D → g ∈ dgs w'.D := fun g hg => by
    rw [TW.D]; unfold dgs at *
    rw [List.map_append]; exact List.mem_append_left _ hg
  refine ⟨Q ++ Dn, ?_, ⟨fun r hr => ?_⟩, fun h h3 => ?_, fun h1 h2 => ?_, fun f h1 h2 => ?_⟩
  · rw [TW.wr (by omega), q1, frs_app]
    exact q3.tick.app ((Wx.fresh (frs Dn)).mono (by decide))
  · rcases List.mem_append.1 hr with k1 | k1
    · obtain ⟨a, b⟩ := q4.d r k1
      exact ⟨by rw [TW.D]; exact List.mem_append_left _ a, by rw [T.now]; omega⟩
    · exact ⟨by rw [TW.D]; exact List.mem_append_right _ k1, by rw [TW.t r k1, T.now]; omega⟩
  · obtain ⟨t1, t2⟩ := TW.tab h h3
    have e : w'.now - (c + 1) = w.now - c := by rw [T.now]; omega
    rw [e, T.now]
    have ra0 : RAo (w.H h).p (dgs w.D) w.now (w.now - c) := by
      by_cases h1 : 1 ≤ c
      · obtain ⟨P, fr, p1, _, p3, _⟩ := q5 h1
        have hfr : fr = [] := by rw [← p1.raw]; rfl
        cases p3 with
        | half r P' f1 f2 _ => rw [hfr] at f2; exact absurd f2 (by simp)
        | whole f2 ra => exact ra h h3
      · have hc0 : c = 0 := by omega
        have ra := A.inv.ra h h3
        rw [A.syn.clk h h3] at ra
        have := RAo.ofState A.inv ra
        rw [hc0]
        rw [show w.now - 0 = w.now by omega]; exact this
    have := (ra0.tick).more more
    exact this.same t1 (t2.trans rfl)
  · by_cases h42 : R + 1 = 42
    · have := T.live A.inv l2.ni l5 TW.D hl (Q := Q)
      rw [h42]; exact this
    · obtain ⟨P, fr, p1, _, p3, p4⟩ := q5 (by omega)
      have hfr : fr = [] := by rw [← p1.raw]; rfl
      have hP : P = [] := by
        cases p3 with
        | half r P' f1 f2 _ => rw [hfr] at f2; exact absurd f2 (by simp)
        | whole f2 ra => exact frs_nil (f2.symm.trans hfr)
      subst hP
      exact (p4.1 (by omega) (by omega)).tick A.inv T l2.ni l5 TW.D hl
  · have hcR : c = R := by omega
    have rowv := fun (_ : NfA w' L3) => F.row f hcR x1 x2 w1 w2 w3 w' L3 Dn T l2.ni l5 TW.D TW.t (noto f hcR x1 x2)
    by_cases h9 : R + 1 = 9
    · have e8 : R = 8 := by omega
      subst e8
      exact ((F.nf f hcR x1 x2).2 (by decide)).live A.inv A.ni l5 T TW.D hl rowv
    · obtain ⟨P, fr, p1, _, p3, p4⟩ := q5 (by omega)
      have hfr : fr = [] := by rw [← p1.raw]; rfl
      have hP : P = [] := by
        cases p3 with
        | half r P' f1 f2 _ => rw [hfr] at f2; exact absurd f2 (by simp)
        | whole f2 ra => exact frs_nil (f2.symm.trans hfr)
      subst hP
      exact (p4.2 f (by omega) hcR).tick A.inv A.ni l5 T TW.D hl hR rowv
/-- A SETTLE's END -/
theorem Bd.settled (A : Law w L x k) (B : Bd φ Ts 120 c w L x) (hc : 90 ≤ c) : nSettled x.N := by
  obtain ⟨P, _, _, _, live⟩ := B.wire (by omega)
  have live := live.1 (by decide) (by omega)
  have I := A.inv
  rw [A.N]
  have hnow := B.now
  refine settled_of I A.ni (fun i e c' hi r => ?_) (fun s v e c' m r st nf => ?_)
  · have st0 := (I.row_c hi r).x.st
    have tk := A.syn.tk i hi
    cases I.sta i hi e c' r with
    | syn cl pe o t =>
      have := o.rem_pos
      have := B.bb i hi cl
      omega
    | srv p cl pe o t =>
      have := o.rem_pos
      obtain ⟨q, q1, q2, q3, _, q5, q6⟩ := I.kid i hi cl
      have := B.bb q (by omega) q3
      omega
    | well p m rel wl =>
      rcases wl.st with q | q
      · exact .inl q.1.st
      · exact .inr q.1
    | bad st => exact .inr st
  · by_cases hlt : (w.G s).U < w.goal s v
    · obtain ⟨m', t, b⟩ := live s v e c' ⟨m, r, st, nf, hlt⟩
      have m1 : 1 ≤ m' := by
        rcases t with ⟨a, _⟩ | ⟨a, _⟩ | ⟨a, b⟩
        · exact a
        · omega
        · omega
      omega
    · omega
end
end Go.Proofs.Qxb6500351aGreat
