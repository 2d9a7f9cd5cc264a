/- THE PLAIN LAW of the law's walk: Close, Abort. No Go in sight. -/
import Derived.Test.Qxb6500351aGreatPl49
set_option linter.unusedVariables false
set_option linter.unusedSimpArgs false
namespace Go.Proofs.Qxb6500351aGreat
open Go.Eng
def InfoOk (H : Hst) : Prop := ∀ sd, H.err sd = 0 → (H.ent sd).kind = 2 → 0 ≤ (H.ent sd).slot ∧ (H.ent sd).slot < 4
theorem err_at {H : Hst} {sd : Int} (h : H.err sd = 0) : ∃ e, H.t.at sd = some e ∧ H.ent sd = e := by
  cases he : H.t.at sd with
  | none => rw [ent_no he] at h; exact absurd h (by decide)
  | some e => exact ⟨e, rfl, (ent_of he).1⟩
theorem Inv.infoOk {w : W} (I : Inv w) {h : Nat} (h3 : h < 3) : InfoOk (w.H h) := fun sd he hk => by
  obtain ⟨e, a, b⟩ := err_at he
  rw [b] at hk ⊢
  obtain ⟨i, i1, _, i3, _⟩ := Tb.at_row a
  exact ((I.hi h h3).good.kindC i1 i3 (by omega)).slot
theorem wantClose_eq {c : Conn} (h0 : c.x.st ≠ 0) : wantClose c.info = c.close.2.2 := by
  have e1 : c.info.state = c.x.st := rfl
  have e2 : c.info.weClosed = c.x.weClosed := rfl
  have e4 : c.info.why = c.x.why := rfl
  unfold wantClose Conn.close
  rw [e1, e2, if_neg h0]
  by_cases k2 : c.x.st = 4
  · rw [if_pos k2, if_pos k2]; unfold ciEnded Cs.ended; rw [e4]
    by_cases k : c.x.why = 0
    · rw [if_neg (fun h => h k), if_pos k]
    · rw [if_pos k, if_neg k]
  rw [if_neg k2, if_neg k2]
  by_cases k1 : c.x.st = 1
  · rw [if_neg (fun h => h.1 k1), if_pos k1]
  rw [if_neg k1]
  by_cases k3 : c.x.weClosed = true
  · rw [if_pos ⟨k1, k3⟩, if_pos k3]
  · rw [if_neg (fun h => k3 h.2), if_neg k3]
def Wrld.endW (x : Wrld) (c : Nat) (sd : Int) (ab : Bool) : Int := if (x.H c).lisB sd = true then 0 else if (x.H c).oursB sd = true then (if ab = true then 0 else wantClose ((x.H c).infoC sd)) else 21
section
variable {w : W} {L : Nat → Ned} {x : Wrld} {k : Int}
theorem lisB_at {H : Hst} {sd : Int} (h : H.lisB sd = true) : ∃ f, H.t.at sd = some f ∧ f.kind = 1 := by
  unfold Hst.lisB at h
  rw [decide_eq_true_eq] at h
  obtain ⟨e, a, b⟩ := err_at h.1
  rw [b] at h
  exact ⟨e, a, h.2⟩
theorem Law.infoOk (A : Law w L x k) {c : Nat} (c3 : c < 3) : InfoOk (x.H c) := by rw [A.H c c3]; exact A.inv.infoOk c3
theorem Law.shutOk (A : Law w L x k) {c : Nat} (c3 : c < 3) {sd : Int} (hl : (x.H c).lisB sd = true) : (x.H c).ShutOk sd := by
  have eH := A.H c c3
  rw [eH] at hl ⊢
  obtain ⟨f, f1, f2⟩ := lisB_at hl
  have HI := A.inv.hi c c3
  refine ⟨fun s hs he hp => ?_, HI.good.freeOk HI.k f1⟩
  obtain ⟨e, a, b⟩ := err_at he
  rw [b] at hp ⊢
  obtain ⟨i, i1, _, i3, _⟩ := Tb.at_row a
  obtain ⟨j, j1, _, j3, j4⟩ := Tb.at_row f1
  have hsd := (HI.good.r.sd j f j1 j3).1
  rcases HI.good.r.kind i e i1 i3 with q | q
  · have := q.parent; omega
  · exact q.slot
/-- what the law reads behind a listener's close -/
structure LisEnd (x : Wrld) (c : Nat) (sd : Int) : Prop where
  info : InfoOk ((x.H c).shutdown sd)
  gone : ((x.H c).shutdown sd).err sd ≠ 0
  kids : ∀ s, s ∈ x.seen c → (x.H c).err s = 0 → ((x.H c).ent s).parent = sd → ((x.H c).shutdown sd).err s = 0 ∧ (((x.H c).shutdown sd).ent s).parent = 0 ∧ (((x.H c).shutdown sd).ent s).kind = 2 ∧ (((x.H c).shutdown sd).infoC s).state = 4 ∧ (((x.H c).shutdown sd).infoC s).why ≠ 0
  cn : ((x.H c).shutF sd (x.H c).t.list).countP firstFrag ≤ 12 ∧ ((x.H c).shutF sd (x.H c).t.list).length ≤ 24
theorem Law.endLis (A : Law w L x k) {c : Nat} (c3 : c < 3) {sd : Int} (hl : (x.H c).lisB sd = true) : LisEnd x c sd ∧ ∃ w' L3 z, Look (({ x with H := upA x.H c ((x.H c).shutdown sd) } : Wrld).put c ((x.H c).shutF sd (x.H c).t.list)) z ∧ Law w' L3 z (k + 1) := by
  have eH := A.H c c3
  rw [eH] at hl
  obtain ⟨f, f1, f2⟩ := lisB_at hl
  have HI := A.inv.hi c c3
  obtain ⟨w', D⟩ := A.inv.shutdown A.syn c3 f1 f2
  obtain ⟨S, hn⟩ := ShutDown.step (del := x.dl) A.inv A.kc D A.ni
  have st := stage_of A.inv S.ends A.ni (.inl hn)
  have hst : w'.H c = (w.H c).shutdown sd := D.out.hst
  have lb : ((w.H c).shutdown sd).lost ≤ (w.H c).lost + 200 := by
    have h1 := Hst.shutH_lost sd (w.H c).t.list (w.H c)
    have h2 := (w.H c).t.list_len
    have h3 : ((w.H c).shutdown sd).lost = ((w.H c).shutH sd (w.H c).t.list).lost := rfl
    omega
  obtain ⟨P, c1, c2⟩ := A.preOut c3 D.out (by omega) S st lb A.wr A.wl (by omega) (fun i hi => by rw [hn] at hi; rw [D.N]; have := A.b.sent i hi; omega) (fun j => by have := A.b.dl j; omega)
  rw [← A.N] at P
  obtain ⟨z, L3, l1, l2, _⟩ := A.look P
  obtain ⟨j, j1, _, j3, j4⟩ := Tb.at_row f1
  have hsd := (HI.good.r.sd j f j1 j3).1
  refine ⟨⟨?_, ?_, fun s hs he hp => ?_, by rw [eH]; exact ⟨c1, c2⟩⟩, w', L3, z, by rw [eH]; exact l1, l2⟩
  · rw [eH, ← hst]; exact D.out.inv.infoOk c3
  · rw [eH, ← hst]
    have := D.at_ sd
    rw [if_pos rfl] at this
    rw [ent_no this]; decide
  · rw [eH] at he hp ⊢
    obtain ⟨e, a, b⟩ := err_at he
    rw [b] at hp
    obtain ⟨ri, ri1, _, ri3, ri4⟩ := Tb.at_row a
    have hk : e.kind = 2 := by
      rcases HI.good.r.kind ri e ri1 ri3 with q | q
      · have := q.parent; omega
      · exact q.kind
    have hne : s ≠ sd := fun q => by
      subst q
      rw [f1] at a; cases a; omega
    have ha := D.at_ s
    rw [if_neg hne, a] at ha
    have ha : (w'.H c).t.at s = some (orph sd e) := ha
    obtain ⟨q1, q2⟩ := ent_of ha
    obtain ⟨i, i1, i2, i3, i4, i5, r⟩ := A.inv.end_of c3 a hk
    have hk' : (orph sd e).kind = 2 := (orph_sim sd e).kind.symm.trans hk
    have hw' : w'.host i = w'.H c := by unfold W.host; rw [D.N, i5]
    have r' : w'.row i (orph sd e) ((w'.H c).c (orph sd e).slot.toNat) := ⟨by rw [hw', D.N, i3]; exact ha, hk', by rw [hw']⟩
    obtain ⟨k1, k2, k3⟩ := D.kid i i1 i2 e _ r hp _ _ r'
    rw [← hst]
    have hi : (w'.H c).infoC s = ((w'.H c).c (orph sd e).slot.toNat).info := by unfold Hst.infoC; rw [q1, if_pos hk']
    rw [q1, hi]
    exact ⟨q2, k1, hk', k2, k3⟩
/-- CLOSE of the caller's own connection -/
theorem Law.endClose (A : Law w L x k) {c : Nat} (c3 : c < 3) {sd : Int} (ho : (x.H c).oursB sd = true) :
    (0 ≤ ((x.H c).ent sd).slot ∧ ((x.H c).ent sd).slot < 4) ∧ ((x.H c).cn sd).close.2.2 = wantClose ((x.H c).infoC sd) ∧ (((x.H c).cn sd).close.2.2 ≠ 0 → ∃ w' L3 z, Look x z ∧ Law w' L3 z (k + 1) ∧ CallW w L x w' L3 z ∧ CallE w w') ∧
    (((x.H c).cn sd).close.2.2 = 0 → nHas x.N (nFind x.N c sd) = true ∧ (((x.H c).emitF ((x.H c).ent sd) ((x.H c).cn sd).close.2.1).countP firstFrag ≤ 12 ∧ ((x.H c).emitF ((x.H c).ent sd) ((x.H c).cn sd).close.2.1).length ≤ 24) ∧
      ∃ w' L3 z, Look (({ x with H := upA x.H c ((x.H c).aft sd ((x.H c).cn sd).close.1 ((x.H c).cn sd).close.2.1), N := nUpd x.N (nFind x.N c sd) (fun y => { y with closed := true }) } : Wrld).put c ((x.H c).emitF ((x.H c).ent sd) ((x.H c).cn sd).close.2.1)) z ∧ Law w' L3 z (k + 1) ∧ CallW w L x w' L3 z ∧ (((x.H c).cn sd).x.st = 3 → CallE w w')) := by
  have eH := A.H c c3
  rw [eH] at ho ⊢
  obtain ⟨i, e, O⟩ := A.ours c3 ho
  refine ⟨by rw [O.ent]; exact O.slot, by rw [O.info, wantClose_eq O.st], fun _ => by obtain ⟨L3, z, a, b⟩ := A.stay; exact ⟨w, L3, z, a, b⟩, fun hz => ?_⟩
  obtain ⟨w', j, o, R, j1, j2, j3, j4, j5⟩ := A.inv.close A.syn c3 ho hz
  have hji : j = i := A.inv.uniq j i R.hi O.hi (j1.trans O.host.symm) (j2.trans O.hsd.symm)
  subst hji
  have NIj := A.ni j O.hi
  obtain ⟨X, hX⟩ : ∃ X : Ned, X = { L j with closed := true } := ⟨_, rfl⟩
  have hXr : X.rcvd = (L j).rcvd := by rw [hX]
  have hXe : X = { L j with sent := (w'.N j).sent, closed := (w'.N j).closed, rcvd := X.rcvd } := by
    rw [j3, hX, ← NIj.c.sent]
  obtain ⟨S, hn⟩ := RowEff.call (del := x.dl) A.inv A.kc o R j1 A.ni hXe (by rw [j3]) (by rw [j3]; exact List.prefix_refl _) (fun _ => by rw [j3]) (.inl hXr) (by rw [hXr, NIj.c.rdl, j4])
  have st := stage_of A.inv S.ends A.ni (.inl hn)
  have lb : ((w.H c).aft sd ((w.H c).cn sd).close.1 ((w.H c).cn sd).close.2.1).lost ≤ (w.H c).lost + 200 := by
    have := (w.H c).aft_lost sd ((w.H c).cn sd).close.1 ((w.H c).cn sd).close.2.1
    have := Conn.close_len O.ok
    omega
  have seB : ∀ i, i < w'.n → ((w'.N i).sent.length : Int) ≤ 16 * (k + 1) := fun i hi => by
    rw [hn] at hi
    have := A.b.sent i hi
    by_cases hij : i = j
    · subst hij; rw [j3]; show ((w.N i).sent.length : Int) ≤ _; omega
    · rw [R.N i hij]; omega
  obtain ⟨P, c1, c2⟩ := A.preOut c3 o (by omega) S st lb A.wr A.wl (by omega) seB (fun j => by have := A.b.dl j; omega)
  have hN : nUpd x.N (nFind x.N c sd) (fun y => { y with closed := true }) = LL (upA L j X) w.n := by
    rw [O.find, A.N]
    unfold nUpd
    rw [Int.toNat_natCast, LL_get O.hi]
    dsimp only
    rw [if_pos (by omega), LL_set, ← hX]
  obtain ⟨z, L3, l1, l2, l3, l4, l5⟩ := A.look P
  have hkp : Keep w.n L L3 := fun i hi => by
    have h := l5 i hi
    by_cases hij : i = j
    · subst hij; rw [upA_at, hX] at h; exact h
    · rwa [upA_ne _ _ hij] at h
  have hcw := o.callW (x := x) (z := z) hkp l3 (by rw [l4]; rfl) (fun hh hh3 => Hst.aft_tab _ _ _ _)
  refine ⟨?_, ⟨c1, c2⟩, w', L3, z, by rw [hN]; exact l1, l2, hcw, fun h3 => .row j R (j5 h3)⟩
  rw [O.find, A.N]
  unfold nHas
  rw [LL_len]
  exact decide_eq_true (by have := O.hi; omega)
/-- ABORT of the caller's own connection -/
theorem Law.endAbort (A : Law w L x k) {c : Nat} (c3 : c < 3) {sd : Int} (ho : (x.H c).oursB sd = true) :
    (0 ≤ ((x.H c).ent sd).slot ∧ ((x.H c).ent sd).slot < 4) ∧ ((x.H c).cn sd).abort.2.2 = 0 ∧ (((x.H c).emitF ((x.H c).ent sd) ((x.H c).cn sd).abort.2.1).countP firstFrag ≤ 12 ∧ ((x.H c).emitF ((x.H c).ent sd) ((x.H c).cn sd).abort.2.1).length ≤ 24) ∧
    (InfoOk ((x.H c).aft sd ((x.H c).cn sd).abort.1 ((x.H c).cn sd).abort.2.1) ∧ ((x.H c).aft sd ((x.H c).cn sd).abort.1 ((x.H c).cn sd).abort.2.1).err sd = 0 ∧ (((x.H c).aft sd ((x.H c).cn sd).abort.1 ((x.H c).cn sd).abort.2.1).ent sd).kind = 2 ∧ (((x.H c).aft sd ((x.H c).cn sd).abort.1 ((x.H c).cn sd).abort.2.1).infoC sd).state = 4 ∧ (((x.H c).aft sd ((x.H c).cn sd).abort.1 ((x.H c).cn sd).abort.2.1).infoC sd).why ≠ 0) ∧
      ∃ w' L3 z, Look (({ x with H := upA x.H c ((x.H c).aft sd ((x.H c).cn sd).abort.1 ((x.H c).cn sd).abort.2.1) } : Wrld).put c ((x.H c).emitF ((x.H c).ent sd) ((x.H c).cn sd).abort.2.1)) z ∧ Law w' L3 z (k + 1) := by
  have eH := A.H c c3
  rw [eH] at ho ⊢
  obtain ⟨i, e, O⟩ := A.ours c3 ho
  obtain ⟨a0, w', j, o, R, j1, j2, j3, j4, j5, j6, j7, j8⟩ := A.inv.abort A.syn c3 O.at_ O.kind
  have hji : j = i := A.inv.uniq j i R.hi O.hi (j1.trans O.host.symm) (j2.trans O.hsd.symm)
  subst hji
  have NIj := A.ni j O.hi
  obtain ⟨S, hn⟩ := RowEff.step (del := x.dl) A.inv A.kc o R j1 A.ni (fun _ _ => rfl) (EndStep.row (del := x.dl) (L' := L) A.inv o.inv R (.inr (by rw [j3])) NIj.c (SameId.refl _) ⟨rfl, rfl, rfl, rfl, rfl, rfl, rfl⟩ (by rw [j3]; exact NIj.c.sent) (by rw [j3]; exact NIj.c.closed) (by rw [j3]; exact List.prefix_refl _) (fun _ => by rw [j3]) (.inl rfl) (by rw [j8]; exact NIj.c.rdl))
  have st := stage_of A.inv S.ends A.ni (.inl hn)
  have lb : ((w.H c).aft sd ((w.H c).cn sd).abort.1 ((w.H c).cn sd).abort.2.1).lost ≤ (w.H c).lost + 200 := by
    have := (w.H c).aft_lost sd ((w.H c).cn sd).abort.1 ((w.H c).cn sd).abort.2.1
    have := Conn.abort_len ((w.H c).cn sd)
    omega
  have seB : ∀ i, i < w'.n → ((w'.N i).sent.length : Int) ≤ 16 * (k + 1) := fun i hi => by
    rw [hn] at hi
    have := A.b.sent i hi
    by_cases hij : i = j
    · subst hij; rw [j3]; omega
    · rw [R.N i hij]; omega
  obtain ⟨P, c1, c2⟩ := A.preOut c3 o (by omega) S st lb A.wr A.wl (by omega) seB (fun j => by have := A.b.dl j; omega)
  rw [← A.N] at P
  obtain ⟨z, L3, l1, l2, _⟩ := A.look P
  have hst : w'.H c = (w.H c).aft sd ((w.H c).cn sd).abort.1 ((w.H c).cn sd).abort.2.1 := o.hst
  have hat : ((w.H c).aft sd ((w.H c).cn sd).abort.1 ((w.H c).cn sd).abort.2.1).t.at sd = some e := O.at_
  obtain ⟨q1, q2⟩ := ent_of hat
  have hi : ((w.H c).aft sd ((w.H c).cn sd).abort.1 ((w.H c).cn sd).abort.2.1).infoC sd = ((w.H c).cn sd).abort.1.info := by
    unfold Hst.infoC
    rw [q1, if_pos O.kind]
    show (upA (w.H c).c ((w.H c).ent sd).slot.toNat ((w.H c).cn sd).abort.1 e.slot.toNat).info = _
    rw [O.ent, upA_at]
  refine ⟨by rw [O.ent]; exact O.slot, a0, ⟨c1, c2⟩, ⟨by rw [← hst]; exact o.inv.infoOk c3, q2, by rw [q1]; exact O.kind, ?_, ?_⟩, w', L3, z, l1, l2⟩
  · rw [hi]; exact j4
  · rw [hi]; exact j5
end
end Go.Proofs.Qxb6500351aGreat
