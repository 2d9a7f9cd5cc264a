/- THE WORK, part 10: a frame, a tick, in a calm settle. No Go in sight. -/
import Derived.Test.Qxb6500351aGreatLv9
set_option linter.unusedVariables false
set_option linter.unusedSimpArgs false
namespace Go.Proofs.Qxb6500351aGreat
open Go.Eng
theorem Mid.more {w : W} {L : Nat → Ned} {P Q : List Rc} {R : Int} (h : Mid w L P Q R) (D : List Rc) : Mid w L P (Q ++ D) R := fun s v e c p => by
  obtain ⟨m, n, m1, hn, b, md⟩ := h s v e c p
  refine ⟨m, n, m1, hn, b, ?_⟩
  cases md with
  | done h f => exact .done h f
  | ack h t => exact .ack h t
  | dat h m2 t =>
    rcases t with t | ⟨r, r1, r2⟩
    · exact .dat h m2 (.inl t)
    · exact .dat h m2 (.inr ⟨r, List.mem_append_left _ r1, r2⟩)
  | tim h t0 t => exact .tim h t0 t
section
variable {φ : Prop} {Ts R c : Int} {w w' : W} {L L3 : Nat → Ned} {x z : Wrld} {k : Int} {d : Nat} {raw : List Int}
theorem dgs_more (o : Out w w' d ((w.H d).inputH raw) ((w.H d).inputF raw) 3) : ∀ g, g ∈ dgs w.D → g ∈ dgs w'.D := fun g hg => by
  obtain ⟨Dn, d1, _⟩ := o.D
  rw [d1]; unfold dgs at *
  rw [List.map_append]; exact List.mem_append_left _ hg
theorem RAo.other (o : Out w w' d ((w.H d).inputH raw) ((w.H d).inputF raw) 3) {h : Nat} (hne : h ≠ d) {T0 : Int} (ra : RAo (w.H h).p (dgs w.D) w.now T0) : RAo (w'.H h).p (dgs w'.D) w'.now T0 := by
  rw [o.H h hne, o.now]
  exact ra.more (dgs_more o)
theorem RAo.self (o : Out w w' d ((w.H d).inputH raw) ((w.H d).inputF raw) 3) {T0 : Int} (ra : RAo ((w.H d).pIn raw).p (dgs w.D) w.now T0) : RAo (w'.H d).p (dgs w'.D) w'.now T0 := by
  rw [o.hst, o.now]
  obtain ⟨a, b⟩ := (w.H d).inputH_tab raw
  exact (ra.more (dgs_more o)).same a b
/-- a record's frame comes in -/
theorem Law.inpR (A : Law w L x k) (hk : k ≤ 1125899906842624) (ht : wTake x.wr 0 = some raw) (d3 : d < 3) {r : Rc} (hr : r ∈ w.D) (hage : w.now - r.t ≤ 4) (hf : raw ∈ r.frames) :
    ∃ w' L3 z, InpW w L x k d raw w' L3 z ∧ ((w.H d).segIn raw = some (r.src, r.g) → Disp w w' d r) ∧ ((w.H d).segIn raw = none → NoEff w w') ∧ ((w.H d).segIn raw = none ∨ (w.H d).segIn raw = some (r.src, r.g)) := by
  have hns : (w.H d).t.nextSd < 1152921504606846976 := by have := A.b.nsd d d3; omega
  obtain ⟨w', o, e, a, b⟩ := A.inv.inputR A.syn d3 hns hr hage hf
  have HI := A.inv.hi d d3
  have clk := A.syn.clk d d3
  have ra := A.inv.ra d d3
  rw [clk] at ra
  obtain ⟨_, _, b7⟩ := Hst.in_frame HI.p HI.pa A.inv.hist (fun s => (A.inv.hT _).1) ra hr hage (A.inv.gok r hr) hf
  have hin := b7.imp id And.right
  obtain ⟨L3, z, J⟩ := A.inpW hk ht d3 o e (fun r' hr' => by
    have hs : (w.H d).segIn raw = some (r.src, r.g) := by
      rcases hin with q | q
      · rw [q] at hr'; cases hr'
      · exact q
    rw [hs] at hr'
    injection hr' with hr'
    injection hr' with q1 q2
    exact (a hs).congr q1.symm q2.symm) b
  exact ⟨w', L3, z, J, a, b, b7.imp id And.right⟩
theorem InpW.dstep (A : Law w L x k) (J : InpW w L x k d raw w' L3 z) {r : Rc} (hr : r ∈ w.D) (hage : w.now - r.t ≤ 4) (hd : r.dst = (d : Int) + 1) (D : Disp w w' d r) {Dn : List Rc} (hD : w'.D = w.D ++ Dn) (hl : ∀ h, h < 3 → z.lost h = x.lost h) (d3 : d < 3) : DStep w w' d r Dn :=
  ⟨A.inv, A.syn, J.law.inv, hr, hage, hd, Eff.ev A.inv J.e, D, hD, by rw [← J.law.lost d d3, hl d d3, A.lost d d3]⟩
/-- A FRAME COMES IN -/
theorem Mi.inp {sp : Int} {lo : Nat → Int} {n : Nat} (A : Law w L x k) (hk : k ≤ 1125899906842624) (M : Mi φ Ts R c sp lo (n + 1) w L x) (ht : wTake x.wr 0 = some raw) (d3 : d < 3) (h0 : raw.getD 0 0 = (d : Int) + 1) : ∃ w' L3 z, InpW w L x k d raw w' L3 z ∧ Mi φ Ts R c sp lo n w' L3 z := by
  have hns : (w.H d).t.nextSd < 1152921504606846976 := by have := A.b.nsd d d3; omega
  obtain ⟨f, l, hl⟩ : ∃ f l, x.wr = f :: l := by
    cases hx : x.wr with
    | nil => have := M.len; rw [hx] at this; simp at this
    | cons f l => exact ⟨f, l, rfl⟩
  have hfr : f.raw = raw := by
    rw [hl] at ht
    unfold wTake at ht
    simp at ht
    exact ht.2
  by_cases hq : x.spilt = sp ∧ (∀ h, h < 3 → x.lost h = lo h) ∧ 1 ≤ c
  case neg =>
    obtain ⟨hb, hr⟩ := A.wr.take ht
    rcases hr with hr | ⟨r, hr, hage, hf⟩
    · obtain ⟨a, b⟩ := Hst.in_flip (H := w.H d) hr
      obtain ⟨w', o, e⟩ := A.inv.disp_stay A.syn d 3
      have o' : Out w w' d ((w.H d).inputH raw) ((w.H d).inputF raw) 3 := by
        unfold Hst.inputH Hst.inputF
        rw [b, a]; exact o
      obtain ⟨L3, z, J⟩ := A.inpW hk ht d3 o' (.no e) (fun r' hr' => by rw [b] at hr'; cases hr') (fun _ => e)
      exact ⟨w', L3, z, J, M.common A J (.inl e) (fun h1 h2 _ _ h3 => absurd ⟨h1, h2, h3⟩ hq)⟩
    · obtain ⟨w', L3, z, J, j1, j2, j3⟩ := A.inpR hk ht d3 hr hage hf
      refine ⟨w', L3, z, J, M.common A J ?_ (fun h1 h2 _ _ h3 => absurd ⟨h1, h2, h3⟩ hq)⟩
      rcases j3 with j3 | j3
      · exact .inl (j2 j3)
      · exact .inr ⟨r, j1 j3⟩
  obtain ⟨hq1, hq2, hq3⟩ := hq
  obtain ⟨A', B, Q, q1, q2, q3, q4, q5⟩ := M.wire hq1 hq2
  obtain ⟨P, fr, p1, p2, p3, p4⟩ := q5 hq3
  obtain ⟨A'', rfl⟩ : ∃ A'', A' = f :: A'' := by
    cases hx : A' with
    | nil => rw [hx] at q2; simp at q2
    | cons f' l' =>
      rw [hl, hx] at q1
      have : f = f' := by simpa using (List.cons.inj q1).1
      subst this; exact ⟨l', rfl⟩
  have hraw : fr = raw :: A''.map Flt.raw := by rw [← p1.raw, ← hfr]; rfl
  -- what any record at the head gives
  have go : ∀ r, r ∈ P → raw ∈ r.frames → ∃ w' L3 z, InpW w L x k d raw w' L3 z ∧ ((∀ P' fr', fr' = A''.map Flt.raw → Rcs w P' → (Out w w' d ((w.H d).inputH raw) ((w.H d).inputF raw) 3 → Cm w' P' fr' (w.now - c)) → (∀ Dn, w'.D = w.D ++ Dn → (∀ h, h < 3 → z.lost h = x.lost h) → (42 ≤ R → R ≤ c + 30 → Mid w' L3 P' (Q ++ Dn) R) ∧ (φ → 9 ≤ R → c = R → MidT w' L3 P' (Q ++ Dn) R)) → Mi φ Ts R c sp lo n w' L3 z) ∧ r ∈ w.D ∧ w.now ≤ r.t + 1 ∧ r.dst = (d : Int) + 1 ∧ ((w.H d).segIn raw = some (r.src, r.g) → Disp w w' d r) ∧ ((w.H d).segIn raw = none → NoEff w w') ∧ ((w.H d).segIn raw = none ∨ (w.H d).segIn raw = some (r.src, r.g))) := fun r hrP hf => by
    obtain ⟨hr, hrt⟩ := p2.d r hrP
    obtain ⟨w', L3, z, J, j1, j2, j3⟩ := A.inpR hk ht d3 hr (by omega) hf
    refine ⟨w', L3, z, J, fun P' fr' e1 e2 e3 e4 => M.common A J ?_ ?_, hr, hrt, by rw [← (Rc.head hf).1, h0], j1, j2, j3⟩
    · rcases j3 with j3 | j3
      · exact .inl (j2 j3)
      · exact .inr ⟨r, j1 j3⟩
    · intro _ _ _ zl _
      refine ⟨f :: A'', B, Q, P', fr', q1, q2, q3, q4, p1.age, e2, e1, by rw [J.o.now]; exact e3 J.o, fun Dn hD => e4 Dn hD (fun h h3 => by rw [zl h h3, hq2 h h3])⟩
  have HI := A.inv.hi d d3
  have clk := A.syn.clk d d3
  have hT : ∀ s, w.T s ≤ w.now := fun s => (A.inv.hT _).1
  have raH := A.inv.ra d d3
  rw [clk] at raH
  cases p3 with
  | half r P' f1 f2 hf' =>
    subst f1
    rw [hraw] at f2
    obtain ⟨f3, f4⟩ := List.cons.inj f2
    have hfm : raw ∈ r.frames := by rw [f3, Rc.frames_two hf'.len]; simp
    obtain ⟨w', L3, z, J, fin, hr, hrt, hdst, j1, j2, j3⟩ := go r (List.mem_cons_self ..) hfm
    have gok := A.inv.gok r hr
    have hda : r.dst = (w.H d).addr := by rw [HI.addr]; exact hdst
    have hdm : r.dgr ∈ dgs w.D := List.mem_map_of_mem hr
    have e2 := in_f2 HI.pa hda gok hf'.len
    have rest : Rcs w P' := ⟨fun r1 h1 => p2.d r1 (List.mem_cons_of_mem _ h1)⟩
    have other : ∀ h, h < 3 → h ≠ d → RAo (w.H h).p (dgs w.D) w.now (w.now - c) := fun h h3 hne => hf'.oth h h3 (by omega)
    refine ⟨w', L3, z, J, fin P' _ rfl rest (fun o => .whole f4 (fun h h3 => ?_)) (fun Dn hD hl => ?_)⟩
    · by_cases hne : h = d
      · subst hne
        refine RAo.self o ?_
        rw [f3, e2]
        rcases hf'.own h h3 hdst with ⟨o1, o2⟩ | ⟨o1, p0, o2, o3, o4, o5⟩
        · exact RAo.old HI.p A.inv.hist hT o2 hdm (by show w.now - r.t ≤ 4; omega) o1 (Rc.pk1 hf'.len).2
        · have := RAo.pair (p := p0) (d := r.dgr) o2 (by rw [← o5]; exact HI.p) A.inv.hist hT o4 hdm (by show w.now - r.t ≤ 4; omega) (show r.dst = p0.addr by rw [o3]; exact hda) hf'.len
          rw [← o5] at this
          exact this
      · exact RAo.other o hne (other h h3 hne)
    · -- the record is taken
      have hclean : 9 ≤ c → (w.H d).segIn raw = some (r.src, r.g) := fun hc9 => by
        rcases hf'.own d d3 hdst with ⟨o1, o2⟩ | ⟨o1, p0, o2, o3, o4, o5⟩
        · omega
        · have cl := o4.clean (by omega)
          rw [f3]
          exact seg_f2 HI.p HI.pa hda gok A.inv.hist hT raH hr (by omega) hf'.len o5 (cl.find _) cl.vacant o3
      exact ⟨fun h1 h2 => (p4.1 h1 h2).step (J.dstep A hr (by omega) hdst (j1 (hclean (by omega))) hD hl d3) A.ni J.keep (fun i e0 c0 hi r0 => Eff.keep J.e hi r0) M.bb M.bq (by have := M.now; omega), fun f h1 h2 => (p4.2 f h1 h2).step (J.dstep A hr (by omega) hdst (j1 (hclean (by omega))) hD hl d3) A.ni J.keep (fun i e0 c0 hi r0 => Eff.keep J.e hi r0)⟩
  | whole f2 ra =>
    cases P with
    | nil => rw [hraw] at f2; exact absurd f2 (by simp [frs])
    | cons r P' =>
      rw [hraw, frs_cons] at f2
      have rest : Rcs w P' := ⟨fun r1 h1 => p2.d r1 (List.mem_cons_of_mem _ h1)⟩
      by_cases hlen : r.dgr.pay.length ≤ 16
      · obtain ⟨f0, g1, _⟩ := Rc.frames_one hlen
        rw [g1] at f2
        obtain ⟨f3, f4⟩ := List.cons.inj f2
        have hfm : raw ∈ r.frames := by rw [g1, f3]; simp
        obtain ⟨w', L3, z, J, fin, hr, hrt, hdst, j1, j2, j3⟩ := go r (List.mem_cons_self ..) hfm
        have gok := A.inv.gok r hr
        have hda : r.dst = (w.H d).addr := by rw [HI.addr]; exact hdst
        obtain ⟨t1, t2⟩ := take_one HI.pa hda gok hlen g1
        rw [← f3] at t1 t2
        refine ⟨w', L3, z, J, fin P' _ rfl rest (fun o => .whole f4 (fun h h3 => ?_)) (fun Dn hD hl => ?_)⟩
        · by_cases hne : h = d
          · subst hne
            refine RAo.self o ?_
            rw [t1]; exact ra h h3
          · exact RAo.other o hne (ra h h3)
        · exact ⟨fun h1 h2 => (p4.1 h1 h2).step (J.dstep A hr (by omega) hdst (j1 t2) hD hl d3) A.ni J.keep (fun i e0 c0 hi r0 => Eff.keep J.e hi r0) M.bb M.bq (by have := M.now; omega), fun f h1 h2 => (p4.2 f h1 h2).step (J.dstep A hr (by omega) hdst (j1 t2) hD hl d3) A.ni J.keep (fun i e0 c0 hi r0 => Eff.keep J.e hi r0)⟩
      · have g1 := Rc.frames_two (r := r) (by omega)
        rw [g1] at f2
        obtain ⟨f3, f4⟩ := List.cons.inj f2
        have hfm : raw ∈ r.frames := by rw [g1, f3]; simp
        obtain ⟨w', L3, z, J, fin, hr, hrt, hdst, j1, j2, j3⟩ := go r (List.mem_cons_self ..) hfm
        have gok := A.inv.gok r hr
        have hda : r.dst = (w.H d).addr := by rw [HI.addr]; exact hdst
        have hdm : r.dgr ∈ dgs w.D := List.mem_map_of_mem hr
        obtain ⟨t1, t2⟩ := in_f1 HI.pa hda gok (by omega)
        rw [← f3] at t1 t2
        have noseg : w.now - c < r.t → (w.H d).segIn raw = none := fun hn => t2 (RAo.nofind A.inv.hist hT (ra d d3) hdm (by show w.now - r.t ≤ 4; omega) hn)
        refine ⟨w', L3, z, J, fin (r :: P') _ rfl p2 (fun o => .half r P' rfl f4 ⟨by omega, fun h h3 hne => RAo.other o (by omega) (ra h h3), fun h h3 hh => ?_⟩) (fun Dn hD hl => ?_)⟩
        · have hhd : h = d := by omega
          subst hhd
          by_cases hn : w.now - c < r.t
          · right
            refine ⟨hn, (w.H h).p, HI.p, by rw [HI.pa, HI.addr, (J.law.inv.hi h h3).addr], by rw [o.now]; exact (ra h h3).more (dgs_more o), ?_⟩
            rw [o.hst]
            unfold Hst.inputH
            rw [noseg hn, t1]
          · left
            refine ⟨by omega, RAo.self o ?_⟩
            rw [t1]
            exact RAo.old HI.p A.inv.hist hT (ra h h3) hdm (by show w.now - r.t ≤ 4; omega) (by show r.t ≤ _; omega) (Rc.pk1 (by omega)).1
        · exact ⟨fun h1 h2 => ((p4.1 h1 h2).noeff A.inv J.law.inv (Eff.ev A.inv J.e) (j2 (noseg (by omega))) J.keep).more Dn, fun f h1 h2 => ((p4.2 f h1 h2).noeff (Eff.ev A.inv J.e) (j2 (noseg (by omega))) J.keep).more Dn⟩
end
end Go.Proofs.Qxb6500351aGreat
