/- THE PLAIN LAW of the host's road: a frame is a datagram that was sent; what a host puts out. No Go in sight. -/
import Derived.Test.Qxb6500351aGreatPl12
set_option linter.unusedVariables false
set_option linter.unusedSimpArgs false
namespace Go.Proofs.Qxb6500351aGreat
open Go.Eng
theorem segDec_enc {src dst : Int} {g : Seg} (h : g.Ok) : segDec src dst (segEnc src dst g) = (0, g) := by
  have hl : (segEnc src dst g).length = 8 + g.data.length := segEnc_len
  have h6 : (segEnc src dst g).take 6 = segHead g := rfl
  have h8 : (segEnc src dst g).drop 8 = g.data := rfl
  have := h.len
  have hf := h.flags
  have e := segDec_ok (src := src) (dst := dst) (l := segEnc src dst g) (by omega) (by omega) (by rw [h6, h8]; rfl) (by rw [h6, h8]; rfl) (by show g.flags ≤ 15; omega)
  rw [e, h8]
  rfl
/-- what a segment's kind is, for the law alone -/
inductive Kd where
  | syn (i : Nat)
  | sa (i : Nat)
  | est (i : Nat) (k a : Int)
  | rst
/-- a segment that was put out -/
structure Rc where
  t : Int
  src : Int
  dst : Int
  m : Int
  g : Seg
  k : Kd
def Rc.dgr (r : Rc) : Dgr := ⟨r.t, r.src, r.dst, r.m, segEnc r.src r.dst r.g⟩
def Rc.frames (r : Rc) : List (List Int) := r.dgr.frames
def dgs (D : List Rc) : List Dgr := D.map Rc.dgr
theorem segEnc_bd {src dst : Int} {g : Seg} (h : g.Ok) : 1 ≤ (segEnc src dst g).length ∧ (segEnc src dst g).length ≤ 32 := by
  have := h.len
  rw [segEnc_len]; omega
theorem frames_dec {d : Dgr} (hl : d.pay.length ≤ 32) {raw : List Int} (h : raw ∈ d.frames) : ∃ pk, pk ∈ d.pkts ∧ pk.length ≤ 24 ∧ raw = frameEnc d.dst d.src 1 pk := by
  unfold Dgr.frames at h
  rw [List.mem_map] at h
  obtain ⟨pk, h1, h2⟩ := h
  refine ⟨pk, h1, ?_, h2.symm⟩
  unfold Dgr.pkts at h1
  split at h1
  · simp only [List.mem_cons, List.not_mem_nil, or_false] at h1
    rw [h1, ipPkt_len]; omega
  · simp only [List.mem_cons, List.not_mem_nil, or_false] at h1
    rcases h1 with h1 | h1 <;> rw [h1, ipPkt_len]
    · rw [List.length_take]; omega
    · rw [List.length_drop]; omega
theorem pkts_src {d : Dgr} {pk : List Int} (h : pk ∈ d.pkts) : pk.getD 2 0 = d.src ∧ pk.getD 0 0 = 6 := by
  unfold Dgr.pkts at h
  split at h
  · simp only [List.mem_cons, List.not_mem_nil, or_false] at h
    rw [h]; exact ⟨rfl, rfl⟩
  · simp only [List.mem_cons, List.not_mem_nil, or_false] at h
    rcases h with h | h <;> rw [h] <;> exact ⟨rfl, rfl⟩
/-- A SOUND FRAME COMES IN -/
theorem Hst.in_frame {H : Hst} (ok : H.p.Ok) (pa : H.p.addr = H.addr) {D : List Rc} {now : Int} {T M C : Int → Int} (HH : Hist (dgs D) T M C) (hT : ∀ s, T s ≤ now) (ra : RA H.p (dgs D) now) {r : Rc} (hr : r ∈ D) (ht : now - r.t ≤ 4) (hg : r.g.Ok) {raw : List Int} (h : raw ∈ r.frames) :
    RA (H.pIn raw).p (dgs D) now ∧ (∃ p, H.pIn raw = { H with p := p } ∧ p.Ok ∧ p.addr = H.p.addr ∧ p.nxt_ = H.p.nxt_ ∧ p.credit = H.p.credit) ∧ (H.segIn raw = none ∨ (r.dst = H.addr ∧ H.segIn raw = some (r.src, r.g))) := by
  have hd : r.dgr ∈ dgs D := List.mem_map_of_mem hr
  have hdo := (HH.ok _ hd).1
  obtain ⟨pk, h1, h2, h3⟩ := frames_dec hdo.len.2 h
  have h3 : raw = frameEnc r.dst r.src 1 pk := h3
  obtain ⟨i1, i2⟩ := RA.inp ok HH hT ra hd ht h1
  obtain ⟨s1, s2⟩ := pkts_src h1
  have hpay : frPay raw = pk := by rw [h3]; exact frame_pay
  have hdec : frDecE H.addr raw = if r.dst = H.addr then 0 else 7 := by rw [h3]; exact frame_dec h2
  have hty : raw.getD 2 0 = 1 := by rw [h3]; rfl
  have hpb : Bytes pk := by
    have hdr := hdo.dst; have hsr := hdo.src
    unfold Dgr.pkts at h1
    split at h1
    · simp only [List.mem_cons, List.not_mem_nil, or_false] at h1
      have := hdo.len
      rw [h1]; exact ipPkt_b (by omega) hsr hdr (by omega) (by omega) (by omega) hdo.b
    · have hp := hdo.len
      simp only [List.mem_cons, List.not_mem_nil, or_false] at h1
      rcases h1 with h1 | h1 <;> rw [h1]
      · exact ipPkt_b (by omega) hsr hdr (by omega) (by omega) (by rw [List.length_take]; omega) (hdo.b.take _)
      · exact ipPkt_b (by omega) hsr hdr (by omega) (by omega) (by rw [List.length_drop]; omega) (hdo.b.drop _)
  obtain ⟨a1, a2, a3⟩ := H.p.inp_addr pk
  refine ⟨?_, ?_, ?_⟩
  · unfold Hst.pIn; split
    · dsimp only; rw [hpay]; exact i1
    · exact ra
  · unfold Hst.pIn; split
    · rw [hpay]; exact ⟨_, rfl, Ipt.ok_inp ok hpb, a1, a2, a3⟩
    · exact ⟨H.p, rfl, ok, rfl, rfl, rfl⟩
  · by_cases hx : r.dst = H.addr
    · unfold Hst.segIn
      rw [hdec, if_pos hx, if_neg (by simp), hty, if_neg (by simp), hpay]
      by_cases hz : (H.p.inp pk).1 = 0
      · right
        refine ⟨hx, ?_⟩
        obtain ⟨q1, q2⟩ := i2 hz
        have q2 : (H.p.inp pk).2.2 = segEnc r.src r.dst r.g := q2
        have s1 : pk.getD 2 0 = r.src := s1
        have q3 : H.p.addr = r.dst := q1.symm
        rw [if_neg (by simpa using hz), s2, if_neg (by simp), s1, q2, q3, segDec_enc hg, if_neg (by simp)]
      · left; rw [if_pos hz]
    · left
      unfold Hst.segIn
      rw [hdec, if_neg hx, if_pos (by decide)]
/-- A FRAME WITH A TURNED BIT COMES IN: nothing -/
theorem Hst.in_flip {H : Hst} {raw : List Int} (h : soundF raw ≠ 0) : H.pIn raw = H ∧ H.segIn raw = none := by
  have hd : frDecE H.addr raw ≠ 0 := by unfold frDecE; rw [if_neg h]; exact h
  exact ⟨by unfold Hst.pIn; rw [if_neg (fun k => hd k.1)], by unfold Hst.segIn; rw [if_pos hd]⟩
/-! ### what goes out -/
def emitR (now : Int) (e : En) : Hst → Int → List (Seg × Kd) → List Rc
  | _, _, [] => []
  | H, m, (g, k) :: l => if H.p.credit ≤ 0 then emitR now e (H.sendH e.rHost (stamp e g)) m l else ⟨now, H.addr, e.rHost, m, stamp e g, k⟩ :: emitR now e (H.sendH e.rHost (stamp e g)) (m + 1) l
theorem sendF_frames {H : Hst} {now m : Int} {dst : Int} {g : Seg} {k : Kd} (pa : H.p.addr = H.addr) (hn : H.p.nxt_ = m % 256) (hc : ¬ H.p.credit ≤ 0) : H.sendF dst g = Rc.frames ⟨now, H.addr, dst, m, g, k⟩ := by
  unfold Hst.sendF
  rw [if_neg hc]
  unfold Rc.frames Dgr.frames Rc.dgr Dgr.pkts Ipt.out
  dsimp only
  rw [pa, hn]
theorem emitF_frames {now : Int} {e : En} : ∀ (l : List (Seg × Kd)) (H : Hst) (m : Int), H.p.addr = H.addr → H.p.nxt_ = m % 256 → H.emitF e (l.map Prod.fst) = ((emitR now e H m l).map Rc.frames).flatten
  | [], H, m, _, _ => rfl
  | (g, k) :: l, H, m, pa, hn => by
    simp only [List.map_cons, Hst.emitF, emitR]
    have ha : (H.sendH e.rHost (stamp e g)).p.addr = (H.sendH e.rHost (stamp e g)).addr := by
      unfold Hst.sendH; split <;> exact pa
    by_cases hc : H.p.credit ≤ 0
    · rw [if_pos hc]
      have hs : H.sendF e.rHost (stamp e g) = [] := by unfold Hst.sendF; rw [if_pos hc]
      have h2 : (H.sendH e.rHost (stamp e g)).p.nxt_ = m % 256 := by unfold Hst.sendH; rw [if_pos hc]; exact hn
      rw [hs, List.nil_append]
      exact emitF_frames l _ m ha h2
    · rw [if_neg hc]
      have h2 : (H.sendH e.rHost (stamp e g)).p.nxt_ = (m + 1) % 256 := by
        unfold Hst.sendH; rw [if_neg hc]; show (if H.p.nxt_ + 1 = 256 then 0 else H.p.nxt_ + 1) = _
        split <;> omega
      rw [List.map_cons, List.flatten_cons, emitF_frames l _ (m + 1) ha h2, sendF_frames (now := now) (k := k) pa hn hc]
/-- the packet layer behind an emission -/
structure EmitP (p p' : Ipt) (n : Int) : Prop where
  addr : p'.addr = p.addr
  tab : p'.tab = p.tab
  credit : p'.credit = p.credit - n
  nxt : ∀ m, p.nxt_ = m % 256 → p'.nxt_ = (m + n) % 256
theorem emitH_p {now : Int} {e : En} : ∀ (l : List (Seg × Kd)) (H : Hst) (m : Int), 0 ≤ H.p.credit → EmitP H.p (H.emitH e (l.map Prod.fst)).p (emitR now e H m l).length ∧ 0 ≤ (H.emitH e (l.map Prod.fst)).p.credit ∧
    ((H.emitH e (l.map Prod.fst)).lost = H.lost ∨ (H.lost < (H.emitH e (l.map Prod.fst)).lost ∧ (H.emitH e (l.map Prod.fst)).p.credit = 0))
  | [], H, m, h => ⟨⟨rfl, rfl, by show _ = _ - 0; simp only [List.map_nil, Hst.emitH]; omega, fun m' hm => by show H.p.nxt_ = (m' + ((0 : Nat) : Int)) % 256; omega⟩, h, .inl rfl⟩
  | (g, k) :: l, H, m, h => by
    simp only [List.map_cons, Hst.emitH, emitR]
    by_cases hc : H.p.credit ≤ 0
    · rw [if_pos hc]
      have h2 : H.sendH e.rHost (stamp e g) = { H with lost := H.lost + 1 } := by unfold Hst.sendH; rw [if_pos hc]
      rw [h2]
      obtain ⟨i1, i2, i3⟩ := emitH_p (now := now) l { H with lost := H.lost + 1 } m h
      refine ⟨⟨i1.addr, i1.tab, i1.credit, i1.nxt⟩, i2, .inr ⟨?_, ?_⟩⟩
      · rcases i3 with i3 | i3
        · rw [i3]; dsimp only; omega
        · have := i3.1; dsimp only at this; omega
      · have := i1.credit
        dsimp only at this ⊢; omega
    · rw [if_neg hc]
      have h2 : H.sendH e.rHost (stamp e g) = { H with p := H.p.sent } := by unfold Hst.sendH; rw [if_neg hc]
      rw [h2]
      obtain ⟨i1, i2, i3⟩ := emitH_p (now := now) l { H with p := H.p.sent } (m + 1) (by show 0 ≤ H.p.credit - 1; omega)
      refine ⟨⟨i1.addr, i1.tab, ?_, fun m' hm' => ?_⟩, i2, i3⟩
      · have := i1.credit
        rw [this, List.length_cons]; show H.p.credit - 1 - _ = _; omega
      · have := i1.nxt (m' + 1) (by show (if H.p.nxt_ + 1 = 256 then 0 else H.p.nxt_ + 1) = _; split <;> omega)
        rw [this, List.length_cons]; congr 1; omega
/-- the records of an emission -/
theorem emitR_mem {now : Int} {e : En} : ∀ (l : List (Seg × Kd)) (H : Hst) (m : Int) (r : Rc), r ∈ emitR now e H m l → ∃ g k, (g, k) ∈ l ∧ r.t = now ∧ r.src = H.addr ∧ r.dst = e.rHost ∧ r.g = stamp e g ∧ r.k = k
  | [], H, m, r, h => by simp [emitR] at h
  | (g, k) :: l, H, m, r, h => by
    have ha := H.sendH_addr e.rHost (stamp e g)
    unfold emitR at h
    split at h
    · obtain ⟨g', k', h1, h2, h3, h4⟩ := emitR_mem l _ m r h
      exact ⟨g', k', List.mem_cons_of_mem _ h1, h2, h3.trans ha, h4⟩
    · rcases List.mem_cons.1 h with rfl | h
      · exact ⟨g, k, List.mem_cons_self .., rfl, rfl, rfl, rfl, rfl⟩
      · obtain ⟨g', k', h1, h2, h3, h4⟩ := emitR_mem l _ (m + 1) r h
        exact ⟨g', k', List.mem_cons_of_mem _ h1, h2, h3.trans ha, h4⟩
/-- THE HISTORY behind an emission -/
theorem Hist.emit {now : Int} {e : En} (he : e.Ok) : ∀ (l : List (Seg × Kd)) (H : Hst) (D : List Rc) (T M C : Int → Int), Hist (dgs D) T M C → T H.addr = now → H.p.credit = C H.addr → (1 ≤ H.addr ∧ H.addr ≤ 3) → (∀ g k, (g, k) ∈ l → g.Ok) →
    Hist (dgs (D ++ emitR now e H (M H.addr) l)) T (fun s => if s = H.addr then M s + (emitR now e H (M H.addr) l).length else M s) (fun s => if s = H.addr then C s - (emitR now e H (M H.addr) l).length else C s)
  | [], H, D, T, M, C, hh, hT, hc, ha, hg => by
    have e1 : (fun s => if s = H.addr then M s + ((emitR now e H (M H.addr) []).length : Int) else M s) = M := by
      funext s; unfold emitR; split <;> simp
    have e2 : (fun s => if s = H.addr then C s - ((emitR now e H (M H.addr) []).length : Int) else C s) = C := by
      funext s; unfold emitR; split <;> simp
    rw [e1, e2]
    simpa [emitR] using hh
  | (g, k) :: l, H, D, T, M, C, hh, hT, hc, ha, hg => by
    have hgo := hg g k (List.mem_cons_self ..)
    have hga := H.sendH_addr e.rHost (stamp e g)
    unfold emitR
    by_cases hx : H.p.credit ≤ 0
    · rw [if_pos hx]
      have h2 : H.sendH e.rHost (stamp e g) = { H with lost := H.lost + 1 } := by unfold Hst.sendH; rw [if_pos hx]
      rw [h2]
      exact Hist.emit he l { H with lost := H.lost + 1 } D T M C hh hT hc ha (fun g' k' h' => hg g' k' (List.mem_cons_of_mem _ h'))
    · rw [if_neg hx]
      have h2 : H.sendH e.rHost (stamp e g) = { H with p := H.p.sent } := by unfold Hst.sendH; rw [if_neg hx]
      rw [h2]
      have hs := stamp_ok he hgo
      have hrh := he.rh
      have a1 : Hist (dgs D ++ [Rc.dgr ⟨now, H.addr, e.rHost, M H.addr, stamp e g, k⟩]) T (fun s => if s = H.addr then M s + 1 else M s) (fun s => if s = H.addr then C s - 1 else C s) :=
        Hist.add hh ⟨by show 0 ≤ H.addr ∧ H.addr ≤ 255; omega, by show 0 ≤ e.rHost ∧ e.rHost ≤ 255; omega, hh.m _, segEnc_bd hs, segEnc_b hs⟩ hT.symm rfl (by show 0 < C H.addr; omega) (fun s => rfl) (fun s => rfl)
      have a2 : dgs D ++ [Rc.dgr ⟨now, H.addr, e.rHost, M H.addr, stamp e g, k⟩] = dgs (D ++ [⟨now, H.addr, e.rHost, M H.addr, stamp e g, k⟩]) := by unfold dgs; simp
      rw [a2] at a1
      have ih := Hist.emit he l { H with p := H.p.sent } (D ++ [⟨now, H.addr, e.rHost, M H.addr, stamp e g, k⟩]) T _ _ a1 hT (by show H.p.credit - 1 = _; dsimp only; rw [if_pos rfl, hc]) ha (fun g' k' h' => hg g' k' (List.mem_cons_of_mem _ h'))
      dsimp only at ih
      rw [if_pos rfl] at ih
      have e3 : D ++ (⟨now, H.addr, e.rHost, M H.addr, stamp e g, k⟩ :: emitR now e { H with p := H.p.sent } (M H.addr + 1) l) = D ++ [⟨now, H.addr, e.rHost, M H.addr, stamp e g, k⟩] ++ emitR now e { H with p := H.p.sent } (M H.addr + 1) l := by simp
      rw [e3]
      have e4 : (fun s => if s = H.addr then M s + ((⟨now, H.addr, e.rHost, M H.addr, stamp e g, k⟩ :: emitR now e { H with p := H.p.sent } (M H.addr + 1) l : List Rc).length : Int) else M s) = (fun s => if s = H.addr then (if s = H.addr then M s + 1 else M s) + ((emitR now e { H with p := H.p.sent } (M H.addr + 1) l).length : Int) else if s = H.addr then M s + 1 else M s) := by
        funext s; rw [List.length_cons]; split <;> omega
      have e5 : (fun s => if s = H.addr then C s - ((⟨now, H.addr, e.rHost, M H.addr, stamp e g, k⟩ :: emitR now e { H with p := H.p.sent } (M H.addr + 1) l : List Rc).length : Int) else C s) = (fun s => if s = H.addr then (if s = H.addr then C s - 1 else C s) - ((emitR now e { H with p := H.p.sent } (M H.addr + 1) l).length : Int) else if s = H.addr then C s - 1 else C s) := by
        funext s; rw [List.length_cons]; split <;> omega
      rw [e4, e5]
      exact ih
/-- where nothing was lost, all went out -/
theorem emitR_full {now : Int} {e : En} : ∀ (l : List (Seg × Kd)) (H : Hst) (m : Int), 0 ≤ H.p.credit → (H.emitH e (l.map Prod.fst)).lost = H.lost → ∀ g, g ∈ l.map Prod.fst → ∃ r, r ∈ emitR now e H m l ∧ r.src = H.addr ∧ r.dst = e.rHost ∧ r.g = stamp e g
  | [], H, m, _, _, g, hg => by simp at hg
  | (g0, k0') :: l, H, m, hc, hl, g, hg => by
    have ha := H.sendH_addr e.rHost (stamp e g0)
    simp only [List.map_cons, Hst.emitH] at hl hg
    unfold emitR
    by_cases hx : H.p.credit ≤ 0
    · exfalso
      have h2 : H.sendH e.rHost (stamp e g0) = { H with lost := H.lost + 1 } := by unfold Hst.sendH; rw [if_pos hx]
      rw [h2] at hl
      obtain ⟨_, _, i3⟩ := emitH_p (now := now) (e := e) l { H with lost := H.lost + 1 } m hc
      rcases i3 with i3 | i3
      · rw [hl] at i3; dsimp only at i3; omega
      · have := i3.1; rw [hl] at this; dsimp only at this; omega
    · rw [if_neg hx]
      have h2 : H.sendH e.rHost (stamp e g0) = { H with p := H.p.sent } := by unfold Hst.sendH; rw [if_neg hx]
      rcases List.mem_cons.1 hg with rfl | hg
      · exact ⟨_, List.mem_cons_self .., rfl, rfl, rfl⟩
      · have hl2 : ((H.sendH e.rHost (stamp e g0)).emitH e (l.map Prod.fst)).lost = (H.sendH e.rHost (stamp e g0)).lost := by
          rw [hl, h2]
        obtain ⟨r, r1, r2, r3, r4⟩ := emitR_full l (H.sendH e.rHost (stamp e g0)) (m + 1) (by rw [h2]; show 0 ≤ H.p.credit - 1; omega) hl2 g hg
        exact ⟨r, List.mem_cons_of_mem _ r1, r2.trans ha, r3, r4⟩
end Go.Proofs.Qxb6500351aGreat
