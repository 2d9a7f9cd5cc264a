/- THE PLAIN LAW of the law's walk: calls that change the table alone. No Go in sight. -/
import Derived.Test.Qxb6500351aGreatPl46
set_option linter.unusedVariables false
set_option linter.unusedSimpArgs false
namespace Go.Proofs.Qxb6500351aGreat
open Go.Eng
def Wrld.listensB (x : Wrld) (c : Nat) (p : Int) : Bool := (x.seen c).any fun sd => decide ((x.H c).err sd = 0) && decide (((x.H c).ent sd).kind = 1) && decide (((x.H c).ent sd).lPort = p)
def Wrld.cnt (x : Wrld) (c : Nat) (k : Int) : Nat := (x.seen c).countP fun sd => decide ((x.H c).err sd = 0) && decide (((x.H c).ent sd).kind = k)
def Wrld.lisW (x : Wrld) (c : Nat) (p : Int) : Int := if p < 1 ∨ 8 ≤ p then 22 else if x.listensB c p = true then 23 else if (x.cnt c 1 : Int) = 2 then 11 else 0
section
variable {w : W} {L : Nat → Ned} {x : Wrld} {k : Int}
theorem Law.cnt (A : Law w L x k) {c : Nat} (c3 : c < 3) (kd : Int) : ((x.cnt c kd : Nat) : Int) = cnt6 (fun i => isK kd ((w.H c).t.es i)) := by
  unfold Wrld.cnt
  rw [A.seen c c3, A.H c c3]
  refine (A.inv.hi c c3).good.r.count kd _ (fun sd e he => ?_)
  obtain ⟨a, b⟩ := ent_of he
  rw [a, b]; simp
theorem Law.listens (A : Law w L x k) {c : Nat} (c3 : c < 3) (p : Int) : x.listensB c p = true ↔ ∃ sd e, (w.H c).t.at sd = some e ∧ e.kind = 1 ∧ e.lPort = p := by
  unfold Wrld.listensB
  rw [A.seen c c3, A.H c c3, List.any_eq_true]
  constructor
  · rintro ⟨sd, h1, h2⟩
    simp only [Bool.and_eq_true, decide_eq_true_eq] at h2
    obtain ⟨e, he⟩ := ((A.inv.hi c c3).good.r.list.2.2 sd).1 h1
    obtain ⟨a, b⟩ := ent_of he
    rw [a] at h2
    exact ⟨sd, e, he, h2.1.2, h2.2⟩
  · rintro ⟨sd, e, he, h1, h2⟩
    obtain ⟨a, b⟩ := ent_of he
    refine ⟨sd, ((A.inv.hi c c3).good.r.list.2.2 sd).2 ⟨e, he⟩, ?_⟩
    rw [a, b]; simp [h1, h2]
theorem Wrld.same_H (x : Wrld) (c : Nat) {H' : Hst} (h : H' = x.H c) : ({ x with H := upA x.H c H' } : Wrld) = x := by
  rw [upA_same _ _ _ h]
/-- a call on one host's table -/
theorem Law.preTab (A : Law w L x k) {h : Nat} (h3 : h < 3) {w' : W} {u : Tb} (T : TabEff w w' h u) (hat : ∀ x e', u.at x = some e' → (∃ e, (w.H h).t.at x = some e ∧ Sim e e') ∨ x = (w.H h).t.nextSd) (nsd : (w.H h).t.nextSd ≤ u.nextSd ∧ u.nextSd ≤ (w.H h).t.nextSd + 1) (qs : QStep (w.q h) (w'.q h)) (lis : LisK w w') :
    ∃ L3 z, Look { x with H := upA x.H h { (x.H h) with t := u } } z ∧ Law w' L3 z (k + 1) ∧ CallW w L x w' L3 z ∧ CallE w w' := by
  obtain ⟨S, hn⟩ := TabEff.step (del := x.dl) A.inv A.kc T hat nsd qs A.ni
  have st := stage_of A.inv S.ends A.ni (.inl hn)
  have B := A.b
  have eH : ∀ j, j < 3 → upA x.H h { (x.H h) with t := u } j = w'.H j := fun j hj => by
    by_cases hjh : j = h
    · subst hjh; rw [upA_at, T.hst, A.H j hj]
    · rw [upA_ne _ _ hjh, T.H j hjh, A.H j hj]
  have pc : ∀ j, j < 3 → (w'.H j).p = (w.H j).p ∧ (w'.H j).lost = (w.H j).lost := fun j hj => by
    by_cases hjh : j = h
    · subst hjh; rw [T.hst]; exact ⟨rfl, rfl⟩
    · rw [T.H j hjh]; exact ⟨rfl, rfl⟩
  have P : Pre w x k w' L w.n { x with H := upA x.H h { (x.H h) with t := u } } :=
    ⟨T.inv, T.syn, S.kc, st, S.hs, A.N, eH, rfl, rfl, rfl, rfl, by rw [T.now]; exact A.tick, A.flood, fun j hj => by rw [(pc j hj).1]; exact A.out j hj, fun j hj => .inl (pc j hj).2, fun j hj => by rw [(pc j hj).2]; omega, by rw [T.D, T.now]; exact A.wr, A.wl, by rw [T.now]; omega, by omega, fun i hi => by rw [hn] at hi; rw [T.N]; have := B.sent i hi; omega, by show x.spilt ≤ x.spilt ∧ x.spilt ≤ _; omega, fun j => by have := B.dl j; show 0 ≤ x.dl j ∧ x.dl j ≤ _; omega⟩
  obtain ⟨z, L3, l1, l2, l3, l4, l5⟩ := A.look P
  exact ⟨L3, z, l1, l2, ⟨T.now, l5, ⟨[], by rw [T.D]; simp, l3, by rw [l4]; show x.spilt = x.spilt + 0; omega, fun r hr => absurd hr (by simp)⟩, fun j hj => by rw [(pc j hj).1]; exact ⟨rfl, rfl⟩⟩, .tab T.n T.N T.G T.D T.rowF T.rowB lis (fun j => by
    by_cases hjh : j = h
    · subst hjh; rw [T.hst]
    · rw [T.H j hjh])⟩
/-- LISTEN -/
theorem Law.listen (A : Law w L x k) (hk : k ≤ 1125899906842624) {c : Nat} (c3 : c < 3) (p : Int) :
    ((x.H c).t.listen p).2.1 = x.lisW c p ∧ (((x.H c).t.listen p).2.1 ≠ 0 → ((x.H c).t.listen p).1 = 0) ∧
    (((x.H c).t.listen p).2.1 = 0 → x.top c < ((x.H c).t.listen p).1 ∧ Hst.err { (x.H c) with t := ((x.H c).t.listen p).2.2 } ((x.H c).t.listen p).1 = 0 ∧ (Hst.ent { (x.H c) with t := ((x.H c).t.listen p).2.2 } ((x.H c).t.listen p).1).kind = 1 ∧ (Hst.ent { (x.H c) with t := ((x.H c).t.listen p).2.2 } ((x.H c).t.listen p).1).lPort = p) ∧
    ∃ w' L3 z, Look { x with H := upA x.H c { (x.H c) with t := ((x.H c).t.listen p).2.2 } } z ∧ Law w' L3 z (k + 1) ∧ CallW w L x w' L3 z ∧ CallE w w' := by
  have hns : (w.H c).t.nextSd < 1152921504606846976 := by have := A.b.nsd c c3; omega
  have HI := A.inv.hi c c3
  have eH := A.H c c3
  have stay : ∀ u, u = (x.H c).t → ∃ w' L3 z, Look { x with H := upA x.H c { (x.H c) with t := u } } z ∧ Law w' L3 z (k + 1) ∧ CallW w L x w' L3 z ∧ CallE w w' := fun u hu => by
    rw [x.same_H c (by rw [hu])]
    obtain ⟨L3, z, a, b⟩ := A.stay
    exact ⟨w, L3, z, a, b⟩
  have lisT := A.listens c3 p
  have cn := A.cnt c3 1
  rw [← HI.good.r.lis] at cn
  rw [eH] at stay ⊢
  unfold Wrld.lisW
  rcases HI.good.listen p with ⟨e, h1⟩ | ⟨e, h1, h2⟩ | ⟨e, h1, h2, h4⟩ | ⟨u, e, h1, h2, h4, h5, h6, h7⟩
  · rw [e, if_pos h1]
    exact ⟨rfl, fun _ => rfl, fun k => absurd k (by decide : ¬ (22 : Int) = 0), stay _ rfl⟩
  · rw [e, if_neg (by omega), if_pos (lisT.2 h2)]
    exact ⟨rfl, fun _ => rfl, fun k => absurd k (by decide : ¬ (23 : Int) = 0), stay _ rfl⟩
  · rw [e, if_neg (by omega), if_neg (fun k => by obtain ⟨sd, f, a, b, c⟩ := lisT.1 k; exact h2 sd f a b c), if_pos (by omega)]
    exact ⟨rfl, fun _ => rfl, fun k => absurd k (by decide : ¬ (11 : Int) = 0), stay _ rfl⟩
  · rw [e, if_neg (by omega), if_neg (fun k => by obtain ⟨sd, f, a, b, c⟩ := lisT.1 k; exact h2 sd f a b c), if_neg (by omega)]
    obtain ⟨w', T, q1, q2, q3⟩ := A.inv.listen A.syn c3 hns p e
    have ha := q3 (w.H c).t.nextSd
    rw [if_pos rfl] at ha
    obtain ⟨en, er⟩ := ent_of (H := { (w.H c) with t := u }) ha
    refine ⟨rfl, fun k => absurd rfl k, fun _ => ⟨(A.top c c3).2.1, er, by rw [en]; rfl, by rw [en]; rfl⟩, w', ?_⟩
    have := A.preTab c3 T (fun y e' hy => by
      rw [q3] at hy
      split at hy
      · rename_i hq; exact .inr hq
      · exact .inl ⟨e', hy, Sim.refl _⟩) (by omega) (by rw [q1]; exact QStep.refl _) (fun j j3 sd f hf hk => by
      by_cases hj : j = c
      · subst hj
        refine ⟨sd, f, ?_, hk, rfl⟩
        rw [T.hst]
        show u.at sd = some f
        rw [q3, if_neg]; exact hf
        intro hq; subst hq
        obtain ⟨i, i1, _, i3, i4⟩ := Tb.at_row hf
        have := (HI.good.r.sd i f i1 i3).2; omega
      · exact ⟨sd, f, by rw [T.H j hj]; exact hf, hk, rfl⟩)
    rw [eH] at this
    exact this
/-! ### Accept -/
def Wrld.accW (x : Wrld) (c : Nat) (lsd : Int) : Int × Int := if (x.H c).lisB lsd = true then (match x.ready.find? (wOf c lsd) with
  | some r => (0, r.sd)
  | none => (14, 0)) else (21, 0)
theorem Law.accept (A : Law w L x k) {c : Nat} (c3 : c < 3) (lsd : Int) :
    ((x.H c).t.accept lsd).2.1 = (x.accW c lsd).1 ∧ ((x.H c).t.accept lsd).1 = (x.accW c lsd).2 ∧ (∀ r, r ∈ x.ready → r.sd ≠ 0) ∧
    ∃ w' L3 z, Look { x with H := upA x.H c { (x.H c) with t := ((x.H c).t.accept lsd).2.2 } } z ∧ Law w' L3 z (k + 1) ∧ CallW w L x w' L3 z ∧ CallE w w' := by
  have HI := A.inv.hi c c3
  have eH := A.H c c3
  have stay : ∀ u, u = (x.H c).t → ∃ w' L3 z, Look { x with H := upA x.H c { (x.H c) with t := u } } z ∧ Law w' L3 z (k + 1) ∧ CallW w L x w' L3 z ∧ CallE w w' := fun u hu => by
    rw [x.same_H c (by rw [hu])]
    obtain ⟨L3, z, a, b⟩ := A.stay
    exact ⟨w, L3, z, a, b⟩
  have sd0 : ∀ r, r ∈ x.ready → r.sd ≠ 0 := fun r hr => by
    obtain ⟨h1, h2, h4⟩ := A.rdy.hr r hr
    have hq := A.rdy.q r.host.toNat (by omega) r.parent h4
    have hm : r.sd ∈ w.q r.host.toNat r.parent := by
      rw [← hq]
      refine List.mem_map.2 ⟨r, List.mem_filter.2 ⟨hr, ?_⟩, rfl⟩
      unfold wOf
      rw [Bool.and_eq_true, decide_eq_true_eq, decide_eq_true_eq]
      exact ⟨by omega, rfl⟩
    have G := (A.inv.hi r.host.toNat (by omega)).good
    obtain ⟨i, e, i1, i3, i4, _⟩ := (G.q.m _ _).1 hm
    have := (G.r.sd i e i1 i3).1; omega
  rw [eH] at stay ⊢
  unfold Wrld.accW
  rw [eH]
  have lisT : (w.H c).lisB lsd = true ↔ ∃ f, (w.H c).t.at lsd = some f ∧ f.kind = 1 := by
    unfold Hst.lisB
    rw [decide_eq_true_eq]
    constructor
    · rintro ⟨a, b⟩
      cases he : (w.H c).t.at lsd with
      | none => rw [ent_no he] at a; exact absurd a (by decide)
      | some f => rw [(ent_of he).1] at b; exact ⟨f, rfl, b⟩
    · rintro ⟨f, a, b⟩
      obtain ⟨q1, q2⟩ := ent_of a
      rw [q1, q2]; exact ⟨rfl, b⟩
  have find : ∀ p, p ≠ 0 → (x.ready.find? (wOf c p)).map (·.sd) = (w.q c p).head? := fun p hp => by
    rw [← A.rdy.q c c3 p hp, List.head?_map, List.head?_filter]
  have lsd0 : ∀ f, (w.H c).t.at lsd = some f → lsd ≠ 0 := fun f hf => by
    obtain ⟨i, i1, _, i3, i4⟩ := Tb.at_row hf
    have := (HI.good.r.sd i f i1 i3).1; omega
  rcases HI.good.accept lsd with ⟨e, h1⟩ | ⟨f, e, h1, h2, h4⟩ | ⟨u, f, sd, e', rest, e, h1, h2, h4, h5, h6, h7, h8, h9, h10, _, h11⟩
  · rw [e, if_neg (fun k => by obtain ⟨f, a, b⟩ := lisT.1 k; exact h1 f a b)]
    exact ⟨rfl, rfl, sd0, stay _ rfl⟩
  · rw [e, if_pos (lisT.2 ⟨f, h1, h2⟩)]
    have := find lsd (lsd0 f h1)
    rw [h4] at this
    have hnone : x.ready.find? (wOf c lsd) = none := by
      cases hh : x.ready.find? (wOf c lsd) with
      | none => rfl
      | some r => rw [hh] at this; cases this
    rw [hnone]
    exact ⟨rfl, rfl, sd0, stay _ rfl⟩
  · rw [if_pos (lisT.2 ⟨f, h1, h2⟩)]
    have := find lsd (lsd0 f h1)
    rw [h4] at this
    obtain ⟨r, hr, hrs⟩ : ∃ r, x.ready.find? (wOf c lsd) = some r ∧ r.sd = sd := by
      cases hh : x.ready.find? (wOf c lsd) with
      | none => rw [hh] at this; cases this
      | some r =>
        rw [hh] at this
        simp only [Option.map_some, List.head?_cons, Option.some.injEq] at this
        exact ⟨r, rfl, this⟩
    rw [hr, e]
    dsimp only
    obtain ⟨w', rest', e'', T, k1, k2, k3, k4, k5, k6, k7, k8, _⟩ := A.inv.accept A.syn c3 e
    refine ⟨rfl, hrs.symm, sd0, w', ?_⟩
    have := A.preTab c3 T (fun y e' hy => by
      rw [k8] at hy
      split at hy
      · rename_i hq; subst hq
        cases hy
        exact .inl ⟨e'', k4, ⟨rfl, rfl, rfl, rfl, rfl, rfl⟩⟩
      · exact .inl ⟨e', hy, Sim.refl _⟩) (by omega) (by
      refine .inl fun y => ?_
      rw [k2]
      by_cases hy : y = lsd
      · subst hy; rw [updQ_at, k1]; exact List.sublist_cons_self ..
      · rw [updQ_ne _ _ hy]; exact List.Sublist.refl _) (fun j j3 sd' f' hf hk => by
      by_cases hj : j = c
      · subst hj
        refine ⟨sd', f', ?_, hk, rfl⟩
        rw [T.hst]
        show Tb.at _ sd' = some f'
        rw [k8, if_neg]; exact hf
        intro hq; subst hq
        rw [hf] at k4; cases k4; omega
      · exact ⟨sd', f', by rw [T.H j hj]; exact hf, hk, rfl⟩)
    rw [eH] at this
    exact this
end
end Go.Proofs.Qxb6500351aGreat
