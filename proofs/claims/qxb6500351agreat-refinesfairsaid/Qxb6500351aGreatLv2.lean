/- THE WORK, part 2: the frames of a record come to its host. No Go in sight. -/
import Derived.Test.Qxb6500351aGreatLv1
set_option linter.unusedVariables false
set_option linter.unusedSimpArgs false
namespace Go.Proofs.Qxb6500351aGreat
open Go.Eng
def Rc.f1 (r : Rc) : List Int := frameEnc r.dst r.src 1 r.dgr.p1
def Rc.f2 (r : Rc) : List Int := frameEnc r.dst r.src 1 r.dgr.p2
theorem Rc.frames_two {r : Rc} (hl : 16 < r.dgr.pay.length) : r.frames = [r.f1, r.f2] := by
  unfold Rc.frames Dgr.frames Dgr.pkts
  rw [if_neg (by omega)]; rfl
theorem Rc.frames_one {r : Rc} (hl : r.dgr.pay.length ≤ 16) : ∃ f, r.frames = [f] ∧ f = frameEnc r.dst r.src 1 (ipPkt 6 r.dgr.src r.dgr.dst (r.dgr.m % 256) 0 r.dgr.pay) := by
  unfold Rc.frames Dgr.frames Dgr.pkts
  rw [if_pos hl]; exact ⟨_, rfl, rfl⟩
theorem Rc.head {r : Rc} {f : List Int} (h : f ∈ r.frames) : f.getD 0 0 = r.dst ∧ 0 < f.length := by
  unfold Rc.frames Dgr.frames at h
  rw [List.mem_map] at h
  obtain ⟨pk, _, rfl⟩ := h
  refine ⟨rfl, ?_⟩
  rw [frameEnc_len]; omega
theorem Rc.pk1 {r : Rc} (hl : 16 < r.dgr.pay.length) : r.dgr.p1 ∈ r.dgr.pkts ∧ r.dgr.p2 ∈ r.dgr.pkts := by
  have : r.dgr.pkts = [r.dgr.p1, r.dgr.p2] := by unfold Dgr.pkts; rw [if_neg (by omega)]; rfl
  rw [this]; exact ⟨List.mem_cons_self .., List.mem_cons_of_mem _ (List.mem_cons_self ..)⟩
section
variable {H : Hst} {r : Rc}
/-- one piece of a record comes to its host -/
theorem piece_in (pa : H.p.addr = H.addr) (hd : r.dst = H.addr) (hg : r.g.Ok) {pk : List Int} (h1 : pk ∈ r.dgr.pkts) (h2 : pk.length ≤ 24) :
    H.pIn (frameEnc r.dst r.src 1 pk) = { H with p := (H.p.inp pk).2.1 } ∧ (¬ (H.p.inp pk).1 = 0 → H.segIn (frameEnc r.dst r.src 1 pk) = none) ∧ ((H.p.inp pk).1 = 0 → (H.p.inp pk).2.2 = r.dgr.pay → H.segIn (frameEnc r.dst r.src 1 pk) = some (r.src, r.g)) := by
  obtain ⟨s1, s2⟩ := pkts_src h1
  have s1 : pk.getD 2 0 = r.src := s1
  have hdec : frDecE H.addr (frameEnc r.dst r.src 1 pk) = 0 := by rw [frame_dec h2, if_pos hd]
  have hty : (frameEnc r.dst r.src 1 pk).getD 2 0 = 1 := rfl
  refine ⟨?_, fun hz => ?_, fun hz hp => ?_⟩
  · unfold Hst.pIn
    rw [if_pos ⟨hdec, hty⟩, frame_pay]
  · unfold Hst.segIn
    rw [hdec, if_neg (by simp), hty, if_neg (by simp), frame_pay, if_pos hz]
  · have q2 : (H.p.inp pk).2.2 = segEnc r.src r.dst r.g := hp
    unfold Hst.segIn
    rw [hdec, if_neg (by simp), hty, if_neg (by simp), frame_pay, if_neg (by simpa using hz), s2, if_neg (by simp), s1, q2, pa, hd.symm, segDec_enc hg, if_neg (by simp)]
theorem take_one (pa : H.p.addr = H.addr) (hd : r.dst = H.addr) (hg : r.g.Ok) (hl : r.dgr.pay.length ≤ 16) {f : List Int} (hf : r.frames = [f]) : H.pIn f = H ∧ H.segIn f = some (r.src, r.g) := by
  have hl0 : 1 ≤ r.dgr.pay.length := (segEnc_bd hg).1
  have hpk : r.dgr.pkts = [ipPkt 6 r.dgr.src r.dgr.dst (r.dgr.m % 256) 0 r.dgr.pay] := by unfold Dgr.pkts; rw [if_pos hl]
  have hin := inp_one (p := H.p) hl hl0 (show r.dgr.dst = H.p.addr from hd.trans pa.symm)
  obtain ⟨p1, _, p3⟩ := piece_in pa hd hg (pk := ipPkt 6 r.dgr.src r.dgr.dst (r.dgr.m % 256) 0 r.dgr.pay) (by rw [hpk]; exact List.mem_cons_self ..) (by rw [ipPkt_len]; omega)
  obtain ⟨f', e1, e2⟩ := Rc.frames_one hl
  have : f = f' := by rw [hf] at e1; exact (List.cons.inj e1).1
  subst this
  rw [e2]
  refine ⟨p1.trans ?_, p3 (by rw [hin]) (by rw [hin])⟩
  rw [hin]
theorem in_f1 (pa : H.p.addr = H.addr) (hd : r.dst = H.addr) (hg : r.g.Ok) (hl : 16 < r.dgr.pay.length) : H.pIn r.f1 = { H with p := (H.p.inp r.dgr.p1).2.1 } ∧ (H.p.find r.dgr.key < 0 → H.segIn r.f1 = none) := by
  have hlen : r.dgr.p1.length ≤ 24 := by
    have : r.dgr.p1.length = 8 + (r.dgr.pay.take 16).length := ipPkt_len
    rw [this, List.length_take]; omega
  obtain ⟨a, b, _⟩ := piece_in pa hd hg (Rc.pk1 hl).1 hlen
  refine ⟨a, fun hf => b ?_⟩
  have ha : r.dgr.dst = H.p.addr := hd.trans pa.symm
  by_cases hv : H.p.vacant < 0
  · rw [inp_full1 hl ha hf hv]; show ¬ (11 : Int) = 0; decide
  · rw [inp_first hl ha hf hv]; show ¬ (10 : Int) = 0; decide
theorem in_f2 (pa : H.p.addr = H.addr) (hd : r.dst = H.addr) (hg : r.g.Ok) (hl : 16 < r.dgr.pay.length) : H.pIn r.f2 = { H with p := (H.p.inp r.dgr.p2).2.1 } := by
  have hl2 := (segEnc_bd (src := r.src) (dst := r.dst) hg).2
  have e : r.dgr.pay = segEnc r.src r.dst r.g := rfl
  have hlen : r.dgr.p2.length ≤ 24 := by
    have : r.dgr.p2.length = 8 + (r.dgr.pay.drop 16).length := ipPkt_len
    rw [this, List.length_drop, e]; omega
  exact (piece_in pa hd hg (Rc.pk1 hl).2 hlen).1
/-- the second piece completes the record -/
theorem seg_f2 (ok : H.p.Ok) (pa : H.p.addr = H.addr) (hd : r.dst = H.addr) (hg : r.g.Ok) {D : List Rc} {now : Int} {T M C : Int → Int} (HH : Hist (dgs D) T M C) (hT : ∀ s, T s ≤ now) (ra : RA H.p (dgs D) now) (hr : r ∈ D) (ht : now - r.t ≤ 4) (hl : 16 < r.dgr.pay.length) {p0 : Ipt} (hp : H.p = (p0.inp r.dgr.p1).2.1) (hf : p0.find r.dgr.key < 0) (hv : ¬ p0.vacant < 0) (ha : p0.addr = H.addr) :
    H.segIn r.f2 = some (r.src, r.g) := by
  have hdm : r.dgr ∈ dgs D := List.mem_map_of_mem hr
  have hl2 : r.dgr.pay.length ≤ 32 := (HH.ok _ hdm).1.len.2
  have ha2 : r.dgr.dst = p0.addr := hd.trans ha.symm
  have hlen : r.dgr.p2.length ≤ 24 := by
    have : r.dgr.p2.length = 8 + (r.dgr.pay.drop 16).length := ipPkt_len
    rw [this, List.length_drop]; omega
  obtain ⟨_, _, c3⟩ := piece_in pa hd hg (Rc.pk1 hl).2 hlen
  have hh : H.p = slotHalf p0 p0.vacant.toNat r.dgr := by rw [hp, inp_first hl ha2 hf hv]
  obtain ⟨s1, _⟩ := inp_second hf hv hl hl2 ha2
  have s1 : (H.p.inp r.dgr.p2).1 = 0 := by rw [hh]; exact s1
  exact c3 s1 ((RA.inp ok HH hT ra hdm ht (Rc.pk1 hl).2).2 s1).2
end
end Go.Proofs.Qxb6500351aGreat
