/- THE PLAIN LAW of the law's walk: Connect. No Go in sight. -/
import Derived.Test.Qxb6500351aGreatPl47
set_option linter.unusedVariables false
set_option linter.unusedSimpArgs false
namespace Go.Proofs.Qxb6500351aGreat
open Go.Eng
def Wrld.conW (x : Wrld) (c : Nat) (rh rp : Int) : Int := if rh < 1 ∨ 255 < rh then 5 else if rp < 1 ∨ 15 < rp then 22 else if (x.cnt c 2 : Int) = 4 then 11 else 0
def Wrld.con (x : Wrld) (c : Nat) (rh rp : Int) : Wrld := ({ x with H := upA x.H c ((x.H c).conH rh rp), N := nConn x.N c (((x.H c).conH rh rp).ent ((x.H c).t.connect rh rp).1) (((x.H c).conH rh rp).infoC ((x.H c).t.connect rh rp).1) } : Wrld).put c ((x.H c).conF rh rp)
/-- what the walk of Connect asks -/
structure ConOk (x : Wrld) (c : Nat) (rh rp : Int) : Prop where
  get : (((x.H c).t.connect rh rp).2.2.get ((x.H c).t.connect rh rp).1).2 = 0 ∧ (0 ≤ ((x.H c).conEn rh rp).slot ∧ ((x.H c).conEn rh rp).slot < 4) ∧ ((x.H c).c ((x.H c).conEn rh rp).slot.toNat).x.st = 0
  top : x.top c < ((x.H c).t.connect rh rp).1
  err : ((x.H c).conH rh rp).err ((x.H c).t.connect rh rp).1 = 0
  kind : (((x.H c).conH rh rp).ent ((x.H c).t.connect rh rp).1).kind = 2
  slot : 0 ≤ (((x.H c).conH rh rp).ent ((x.H c).t.connect rh rp).1).slot ∧ (((x.H c).conH rh rp).ent ((x.H c).t.connect rh rp).1).slot < 4
  par : (((x.H c).conH rh rp).ent ((x.H c).t.connect rh rp).1).parent = 0
  hrh : (((x.H c).conH rh rp).ent ((x.H c).t.connect rh rp).1).rHost = rh
  hrp : (((x.H c).conH rh rp).ent ((x.H c).t.connect rh rp).1).rPort = rp
  hlp : 8 ≤ (((x.H c).conH rh rp).ent ((x.H c).t.connect rh rp).1).lPort ∧ (((x.H c).conH rh rp).ent ((x.H c).t.connect rh rp).1).lPort ≤ 15
  tup : ∀ sd, sd ∈ x.seen c → ¬ (((x.H c).conH rh rp).err sd = 0 ∧ (((x.H c).conH rh rp).ent sd).kind = 2 ∧ (((x.H c).conH rh rp).ent sd).lPort = (((x.H c).conH rh rp).ent ((x.H c).t.connect rh rp).1).lPort ∧ (((x.H c).conH rh rp).ent sd).rHost = rh ∧ (((x.H c).conH rh rp).ent sd).rPort = rp)
  ents : ∀ sd, sd ∈ x.seen c → ((x.H c).conH rh rp).err sd = 0 ∧ ((((x.H c).conH rh rp).ent sd).kind = 2 → 0 ≤ (((x.H c).conH rh rp).ent sd).slot ∧ (((x.H c).conH rh rp).ent sd).slot < 4)
  can : nCan x.N c (((x.H c).conH rh rp).ent ((x.H c).t.connect rh rp).1) (((x.H c).conH rh rp).infoC ((x.H c).t.connect rh rp).1) = true
  cn : ((x.H c).conF rh rp).countP firstFrag ≤ 12 ∧ ((x.H c).conF rh rp).length ≤ 24
section
variable {w : W} {L : Nat → Ned} {x : Wrld} {k : Int}
theorem Law.connect (A : Law w L x k) (hk : k ≤ 1125899906842624) {c : Nat} (c3 : c < 3) (rh rp : Int) :
    ((x.H c).t.connect rh rp).2.1 = x.conW c rh rp ∧ (((x.H c).t.connect rh rp).2.1 ≠ 0 → ((x.H c).t.connect rh rp).1 = 0 ∧ (x.H c).conH rh rp = x.H c ∧ ∃ w' L3 z, Look x z ∧ Law w' L3 z (k + 1) ∧ CallW w L x w' L3 z ∧ CallE w w') ∧
    (((x.H c).t.connect rh rp).2.1 = 0 → ConOk x c rh rp ∧ ∃ w' L3 z, Look (x.con c rh rp) z ∧ Law w' L3 z (k + 1) ∧ CallW w L x w' L3 z ∧ BornC w w' c rh rp) := by
  have hns : (w.H c).t.nextSd < 1152921504606846976 := by have := A.b.nsd c c3; omega
  have HI := A.inv.hi c c3
  have eH := A.H c c3
  have cn := A.cnt c3 2
  have err : ∀ e : Int, e ≠ 0 → (w.H c).t.connect rh rp = (0, e, (w.H c).t) → (((w.H c).t.connect rh rp).2.1 ≠ 0 → ((w.H c).t.connect rh rp).1 = 0 ∧ (w.H c).conH rh rp = w.H c ∧ ∃ w' L3 z, Look x z ∧ Law w' L3 z (k + 1) ∧ CallW w L x w' L3 z ∧ CallE w w') ∧ (((w.H c).t.connect rh rp).2.1 = 0 → ConOk x c rh rp ∧ ∃ w' L3 z, Look (x.con c rh rp) z ∧ Law w' L3 z (k + 1) ∧ CallW w L x w' L3 z ∧ BornC w w' c rh rp) := fun e he hc => by
    have h1 : (w.H c).conH rh rp = w.H c := by unfold Hst.conH; rw [hc, if_pos he]
    obtain ⟨L3, z, a, b⟩ := A.stay
    exact ⟨fun _ => ⟨by rw [hc], h1, w, L3, z, a, b⟩, fun h0 => by rw [hc] at h0; exact absurd h0 he⟩
  rw [eH]
  unfold Wrld.conW
  rcases HI.good.connect HI.tok.eph rh rp with ⟨e, h1⟩ | ⟨e, h1, h2⟩ | ⟨e, h1, h2, h4⟩ | ⟨u, lp, slot, e, h1, h2, h4, h5⟩
  · refine ⟨?_, err 5 (by decide) e⟩
    rw [e, if_pos h1]
  · refine ⟨?_, err 22 (by decide) e⟩
    rw [e, if_neg (by omega), if_pos h2]
  · refine ⟨?_, err 11 (by decide) e⟩
    rw [e, if_neg (by omega), if_neg (by omega), if_pos (by omega)]
  refine ⟨by rw [e, if_neg (by omega), if_neg (by omega), if_neg (by omega)], fun hz => ?_, fun _ => ?_⟩
  · rw [e] at hz; exact absurd rfl hz
  have hE : ((w.H c).t.connect rh rp).2.1 = 0 := by rw [e]
  have hsd : ((w.H c).t.connect rh rp).1 = (w.H c).t.nextSd := by rw [e]
  obtain ⟨w', en, cc, o, k1, k2, k3, k4, k5, k6, k7, k8, k9, k10, k11, k12, k13, k14, k15, k16, k17, k18, k19, k20, k21, k22, k23, k24⟩ := A.inv.connect A.syn c3 hns hE
  have hst : w'.H c = (w.H c).conH rh rp := o.hst
  rw [hst] at k17 k18
  have ha := k18 (w.H c).t.nextSd
  rw [if_pos rfl] at ha
  obtain ⟨en1, er1⟩ := ent_of ha
  have hinfo : ((w.H c).conH rh rp).infoC (w.H c).t.nextSd = cc.info := by
    unfold Hst.infoC
    rw [en1, if_pos k10]
    have hr := k4.c
    have hw : w'.host w.n = (w.H c).conH rh rp := by
      rw [← hst]; unfold W.host; rw [k6]
      show w'.H (c : Int).toNat = _; simp
    rw [hw] at hr
    rw [← hr]
  have l3 := HI.good.r.list.2.2
  have seen := A.seen c c3
  have old : ∀ sd, sd ∈ x.seen c → ∃ f, (w.H c).t.at sd = some f ∧ ((w.H c).conH rh rp).t.at sd = some f := fun sd hs => by
    rw [seen] at hs
    obtain ⟨f, hf⟩ := (l3 sd).1 hs
    refine ⟨f, hf, ?_⟩
    rw [k18, if_neg]; exact hf
    intro hq
    obtain ⟨i, i1, _, i3, i4⟩ := Tb.at_row hf
    have := (HI.good.r.sd i f i1 i3).2; omega
  -- the list grows by the client's end
  have hnf : nFind x.N c en.sd < 0 := by
    have e1 : nFind (LL L w.n) (c : Int) en.sd = -1 := LL_nofind (fun j hj hab => by
      have id := (A.ni j hj).c.id
      have := (A.inv.old j hj).2
      have hw : w.host j = w.H c := by unfold W.host; rw [← id.host, hab.1]; simp
      rw [hw] at this
      have h2 := id.sd
      have h3 := hab.2
      omega)
    rw [A.N, e1]; decide
  have hcan : nCan x.N c en cc.info = true := by
    unfold nCan
    rw [decide_eq_true hnf, Bool.true_and]
    exact decide_eq_true k5
  have hN : nConn x.N c en cc.info = LL (upA L w.n (conN c en)) w'.n := by
    unfold nConn
    rw [if_pos hcan, A.N, LL_app, k1]; rfl
  have hs : ∀ j, j < 3 → HStep w w' j := fun j hj => by
    by_cases hjc : j = c
    · subst hjc
      refine ⟨fun y e' hy => ?_, by rw [hst]; omega, by rw [k7]; exact QStep.refl _⟩
      rw [hst, k18] at hy
      split at hy
      · rename_i hq; exact .inr hq
      · exact .inl ⟨e', hy, Sim.refl _⟩
    · exact HStep.same (by rw [o.H j hjc]) (by rw [k7])
  have E : ∀ i, i < w.n → EndStep w w' x.dl L (upA L w.n (conN c en)) i := fun i hi => EndStep.tr A.inv hi (A.ni i hi).c (k2 i hi) (upA_ne _ _ (by omega)) ⟨by rw [k21 i hi]; exact Gh.Le.refl _, by rw [k21 i hi]⟩ (TrI.same (k3 i hi))
  have kc' : KC w' := KC.next A.inv A.kc hs (fun i hi => by rw [k2 i hi]; exact SameId.refl _) (fun i h1 h2 => by
    have : i = w.n := by omega
    subst this; exact ⟨en, cc, k4⟩)
  have S : LStep w w' x.dl L (upA L w.n (conN c en)) := ⟨o.inv, o.syn, kc', E, hs⟩
  have st := stage_con (h := (c : Int)) A.inv o.inv E A.ni k1 k6 (upA_at ..) k4 k5
  have lb : ((w.H c).conH rh rp).lost ≤ (w.H c).lost + 200 := by have := (w.H c).conH_lost rh rp; omega
  have seB : ∀ i, i < w'.n → ((w'.N i).sent.length : Int) ≤ 16 * (k + 1) := fun i hi => by
    have k0 := A.b.now
    by_cases hin : i < w.n
    · rw [k2 i hin]; have := A.b.sent i hin; omega
    · have : i = w.n := by omega
      subst this
      rw [k6]
      show ((0 : Nat) : Int) ≤ _
      omega
  obtain ⟨P, c1, c2⟩ := A.preOut c3 o (by omega) S st lb A.wr A.wl (by omega) seB (fun j => by have := A.b.dl j; omega)
  have hx : x.con c rh rp = ({ x with H := upA x.H c ((w.H c).conH rh rp), dl := x.dl, wr := x.wr, N := LL (upA L w.n (conN c en)) w'.n } : Wrld).put c ((w.H c).conF rh rp) := by
    unfold Wrld.con
    rw [eH, hsd, en1, hinfo, hN]
  obtain ⟨z, L3, l1, l2, l3, l4, l5⟩ := A.look P
  have hkp : Keep w.n L L3 := fun j hj => by
    have h := l5 j (by omega)
    rwa [upA_ne _ _ (by omega : j ≠ w.n)] at h
  have hlis : LisK w w' := fun j j3 sd f hf hk => by
    by_cases hj : j = c
    · subst hj
      refine ⟨sd, f, ?_, hk, rfl⟩
      rw [hst, k18, if_neg]; exact hf
      intro hq; subst hq
      obtain ⟨i, i1, _, i3, i4⟩ := Tb.at_row hf
      have := (HI.good.r.sd i f i1 i3).2; omega
    · exact ⟨sd, f, by rw [o.H j hj]; exact hf, hk, rfl⟩
  have hcw := o.callW (x := x) (z := z) hkp l3 (by rw [l4]; rfl) (fun hh hh3 => Hst.conH_tab _ _ _)
  refine ⟨?_, w', L3, z, by rw [hx]; exact l1, l2, hcw, ⟨by rw [k6]; rfl, k1, k2, k3, k21, ⟨en, cc, k4, k5, k22, k23, k11, k12⟩, fun hl => k24 (hl c c3), hlis⟩⟩
  constructor
  · rw [eH]
    refine ⟨?_, by rw [k8]; exact k15, by rw [k8]; exact k20⟩
    have : ((w.H c).t.connect rh rp).2.2 = ((w.H c).conH rh rp).t := by unfold Hst.conH; rw [if_neg (fun k => k hE)]
    rw [this, hsd]; exact er1
  · rw [eH, hsd]; exact (A.top c c3).2.1
  · rw [eH, hsd]; exact er1
  · rw [eH, hsd, en1]; exact k10
  · rw [eH, hsd, en1]; exact k15
  · rw [eH, hsd, en1]; exact k14
  · rw [eH, hsd, en1]; exact k11
  · rw [eH, hsd, en1]; exact k12
  · rw [eH, hsd, en1]; exact k13
  · intro sd hs
    rw [eH, hsd, en1]
    obtain ⟨f, f1, f2⟩ := old sd hs
    rintro ⟨q1, q2, q3, q4, q5⟩
    rw [(ent_of f2).1] at q2 q3 q4 q5
    exact k16 sd f f1 q2 ⟨q3, q4, q5⟩
  · intro sd hs
    rw [eH]
    obtain ⟨f, f1, f2⟩ := old sd hs
    obtain ⟨q1, q2⟩ := ent_of f2
    rw [q1]
    refine ⟨q2, fun hk2 => ?_⟩
    obtain ⟨i, i1, _, i3, i4⟩ := Tb.at_row f1
    exact (HI.good.kindC i1 i3 (by omega)).slot
  · rw [eH, hsd, en1, hinfo]; exact hcan
  · rw [eH]; exact ⟨c1, c2⟩
end
end Go.Proofs.Qxb6500351aGreat
