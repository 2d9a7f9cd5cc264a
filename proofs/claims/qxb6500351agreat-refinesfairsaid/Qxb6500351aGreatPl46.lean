/- THE PLAIN LAW of the law's walk: a frame comes in, the clock ticks. No Go in sight. -/
import Derived.Test.Qxb6500351aGreatPl45
set_option linter.unusedVariables false
set_option linter.unusedSimpArgs false
namespace Go.Proofs.Qxb6500351aGreat
open Go.Eng
def Wrld.put (x : Wrld) (c : Nat) (fr : List (List Int)) : Wrld := { x with wr := wPuts x.wr fr, spilt := x.spilt + wSpill x.wr fr, out := upA x.out c (x.out c + (fr.countP firstFrag : Nat)), flood := x.flood || decide (12 < fr.countP firstFrag) }
/-! ### losses -/
theorem Hst.shutH_lost (lsd : Int) : ∀ (l : List Int) (H : Hst), H.lost ≤ (H.shutH lsd l).lost ∧ (H.shutH lsd l).lost ≤ H.lost + 14 * l.length
  | [], H => by simp [Hst.shutH]
  | sd :: l, H => by
    have h1 : H.lost ≤ (H.shutH1 lsd sd).lost ∧ (H.shutH1 lsd sd).lost ≤ H.lost + 14 := by
      unfold Hst.shutH1; split
      · have := H.aft_lost sd (H.cn sd).abort.1 (H.cn sd).abort.2.1
        have := (H.cn sd).abort_len
        omega
      · omega
    have h2 := Hst.shutH_lost lsd l (H.shutH1 lsd sd)
    simp only [Hst.shutH, List.length_cons]; omega
theorem Hst.tickH_lost : ∀ (l : List Int) (H : Hst), H.lost ≤ (H.tickH l).lost ∧ (H.tickH l).lost ≤ H.lost + 14 * l.length
  | [], H => by simp [Hst.tickH]
  | sd :: l, H => by
    have h1 : H.lost ≤ (H.tickH1 sd).lost ∧ (H.tickH1 sd).lost ≤ H.lost + 14 := by
      unfold Hst.tickH1; split
      · have := H.aft_lost sd (H.cn sd).tick.1 (H.cn sd).tick.2
        have := (H.cn sd).tick_len
        dsimp only
        omega
      · omega
    have h2 := Hst.tickH_lost l (H.tickH1 sd)
    simp only [Hst.tickH, List.length_cons]; omega
theorem Hst.conH_lost (H : Hst) (rh rp : Int) : (H.conH rh rp).lost ≤ H.lost + 14 := by
  unfold Hst.conH; split
  · dsimp only; omega
  · dsimp only
    have := H.emitH_lost (H.conEn rh rp) ((H.c (H.conEn rh rp).slot.toNat).openA (H.clock % 256)).2
    have := Conn.openA_len (H.c (H.conEn rh rp).slot.toNat) (H.clock % 256)
    have h3 := Hst.emitH_lost (H.conEn rh rp) ((H.c (H.conEn rh rp).slot.toNat).openA (H.clock % 256)).2 H
    omega
theorem Hst.dispH_lost {H : Hst} (hc : ∀ k, (H.c k).Ok) (src : Int) {g : Seg} (hg : g.Ok) : (H.dispH src g).lost ≤ H.lost + 14 := by
  unfold Hst.dispH
  repeat' split
  · unfold Hst.toRowH; dsimp only
    have h1 := Hst.emitH_lost (H.ent (H.t.lookup g.dp src g.sp)) ((H.c (H.ent (H.t.lookup g.dp src g.sp)).slot.toNat).input g).2 H
    have h2 := Conn.input_len (hc (H.ent (H.t.lookup g.dp src g.sp)).slot.toNat) hg
    omega
  · unfold Hst.toLisH; split
    · dsimp only; omega
    · dsimp only
      have h1 := Hst.emitH_lost ((H.t.child g.dp src g.sp).2.2.get (H.t.child g.dp src g.sp).1).1 ((H.c ((H.t.child g.dp src g.sp).2.2.get (H.t.child g.dp src g.sp).1).1.slot.toNat).openP (H.clock % 256) g).2 H
      have h2 := Conn.openP_len (H.c ((H.t.child g.dp src g.sp).2.2.get (H.t.child g.dp src g.sp).1).1.slot.toNat) (H.clock % 256) g
      omega
  · omega
  · have := H.sendH_lost src (nobody g); omega
/-! ### what the walks of a host ask -/
theorem Law.hstOk {w : W} {L : Nat → Ned} {x : Wrld} {k : Int} (A : Law w L x k) (hk : k ≤ 1125899906842624) {h : Nat} (h3 : h < 3) : (x.H h).Ok ∧ (x.H h).lost + 300 ≤ 1152921504606846976 ∧ (x.H h).clock < 1152921504606846976 ∧ (x.H h).t.nextSd < 1152921504606846976 := by
  have HI := A.inv.hi h h3
  have b1 := A.b.now
  have b2 := A.b.lost h h3
  have b3 := A.b.nsd h h3
  have b4 := A.syn.clk h h3
  rw [A.H h h3]
  exact ⟨⟨by rw [HI.addr]; omega, by omega, by omega, HI.p, HI.pa, HI.c, HI.tok⟩, by omega, by omega, by omega⟩
/-- one host did something and answered frames -/
theorem Law.preOut {w : W} {L : Nat → Ned} {x : Wrld} {k : Int} (A : Law w L x k) {h : Nat} (h3 : h < 3) {w' : W} {H' : Hst} {fr : List (List Int)} {kk : Nat} (o : Out w w' h H' fr kk) (hkk : kk ≤ 12) {dl : Nat → Int} {L1 L' : Nat → Ned} {m : Nat} {wr : List Flt}
    (S : LStep w w' dl L L1) (st : Stage w' dl L' m 0) (lb : H'.lost ≤ (w.H h).lost + 200) (wrS : WrOk w.D w.now wr) (wl : wr.length ≤ 64) (nB : w'.n ≤ w.n + 1) (seB : ∀ i, i < w'.n → ((w'.N i).sent.length : Int) ≤ 16 * (k + 1)) (dlB : ∀ h, 0 ≤ dl h ∧ dl h ≤ k + 1) :
    Pre w x k w' L' m (({ x with H := upA x.H h H', dl := dl, wr := wr, N := LL L' m } : Wrld).put h fr) ∧ fr.countP firstFrag ≤ 12 ∧ fr.length ≤ 24 := by
  obtain ⟨Dn, d1, d2, d3, d4, d5⟩ := o.D
  have hc : fr.countP firstFrag = Dn.length := by rw [d2]; exact first_count Dn
  have hl : fr.length ≤ 2 * Dn.length := by rw [d2]; exact frames_total Dn
  have eH : ∀ j, j < 3 → upA x.H h H' j = w'.H j := fun j hj => by
    by_cases hjh : j = h
    · subst hjh; rw [upA_at, o.hst]
    · rw [upA_ne _ _ hjh, o.H j hjh, A.H j hj]
  have sp := wSpill_b wr fr
  refine ⟨⟨o.inv, o.syn, S.kc, st, S.hs, rfl, eH, rfl, rfl, rfl, rfl, by rw [o.now]; exact A.tick, ?_, fun j hj => ?_, fun j hj => ?_, fun j hj => ?_, ?_, wPuts_len fr wl, by rw [o.now]; omega, nB, seB, ?_, dlB⟩, by omega, by omega⟩
  · show (x.flood || decide (12 < fr.countP firstFrag)) = false
    rw [A.flood, hc, decide_eq_false (by omega)]; rfl
  · show upA x.out h (x.out h + ((fr.countP firstFrag : Nat) : Int)) j = _
    by_cases hjh : j = h
    · subst hjh
      rw [upA_at, o.hst, d4, hc, A.out j hj]; omega
    · rw [upA_ne _ _ hjh, o.H j hjh]; exact A.out j hj
  · by_cases hjh : j = h
    · subst hjh
      rw [o.hst]; exact o.lost
    · rw [o.H j hjh]; exact .inl rfl
  · by_cases hjh : j = h
    · subst hjh; rw [o.hst]; exact lb
    · rw [o.H j hjh]; omega
  · have ok := o.inv.dgr_ok
    rw [d1] at ok ⊢
    rw [o.now]
    exact wrS.out ok d5 d2
  · show x.spilt ≤ x.spilt + wSpill wr fr ∧ x.spilt + wSpill wr fr ≤ x.spilt + 72
    omega
/-! ### what the caller's calls leave behind -/
/-- listeners stay -/
def LisK (w w' : W) : Prop := ∀ h, h < 3 → ∀ sd f, (w.H h).t.at sd = some f → f.kind = 1 → ∃ sd' f', (w'.H h).t.at sd' = some f' ∧ f'.kind = 1 ∧ f'.lPort = f.lPort
theorem LisK.same {w w' : W} (h : ∀ j, (w'.H j).t = (w.H j).t) : LisK w w' := fun j _ sd f hf hk => ⟨sd, f, by rw [h]; exact hf, hk, rfl⟩
/-- on the ends: the table alone; one row; a client's birth -/
inductive CallE (w w' : W) : Prop where
  | tab (n : w'.n = w.n) (N : w'.N = w.N) (G : w'.G = w.G) (D : w'.D = w.D) (rowF : ∀ j, j < w.n → ∀ e' c, w'.row j e' c → ∃ e, w.row j e c ∧ Sim e e') (rowB : ∀ j, j < w.n → ∀ e c, w.row j e c → ∃ e', w'.row j e' c) (lis : LisK w w') (q : ∀ h, (w'.H h).lost = (w.H h).lost)
  | row (i : Nat) (R : RowEff w w' i) (X : RowX w w' i)
/-- a client is born -/
structure BornC (w w' : W) (c : Nat) (rh rp : Int) : Prop where
  host : (w'.N w.n).host = (c : Int)
  n : w'.n = w.n + 1
  N : ∀ j, j < w.n → w'.N j = w.N j
  rows : ∀ j, j < w.n → ∀ e c, w'.row j e c ↔ w.row j e c
  G : ∀ j, j < w.n → w'.G j = w.G j
  row : ∃ e c, w'.row w.n e c ∧ c.x.st = 1 ∧ c.x.timer = 2 ∧ c.x.retries = 0 ∧ e.rHost = rh ∧ e.rPort = rp
  D : (∀ h, h < 3 → (w'.H h).lost = (w.H h).lost) → ∃ r, w'.D = w.D ++ [r] ∧ r.dst = rh ∧ r.g.dp = rp ∧ r.g.flags = 1
  lis : LisK w w'
/-- on clock, wire, losses -/
structure CallW (w : W) (L : Nat → Ned) (x : Wrld) (w' : W) (L3 : Nat → Ned) (z : Wrld) : Prop where
  now : w'.now = w.now
  keep : Keep w.n L L3
  wire : ∃ Dn, w'.D = w.D ++ Dn ∧ z.wr = wPuts x.wr (Dn.map Rc.frames).flatten ∧ z.spilt = x.spilt + wSpill x.wr (Dn.map Rc.frames).flatten ∧ ∀ r, r ∈ Dn → r.t = w.now
  tab : ∀ h, h < 3 → (w'.H h).p.tab = (w.H h).p.tab ∧ (w'.H h).p.addr = (w.H h).p.addr
theorem Hst.sendH_tb (H : Hst) (dst : Int) (g : Seg) : (H.sendH dst g).p.tab = H.p.tab ∧ (H.sendH dst g).p.addr = H.p.addr := by unfold Hst.sendH; split <;> exact ⟨rfl, rfl⟩
theorem Hst.emitH_tb (e : En) : ∀ (l : List Seg) (H : Hst), (H.emitH e l).p.tab = H.p.tab ∧ (H.emitH e l).p.addr = H.p.addr
  | [], H => ⟨rfl, rfl⟩
  | g :: l, H => by
    simp only [Hst.emitH]
    obtain ⟨a, b⟩ := Hst.emitH_tb e l (H.sendH e.rHost (stamp e g))
    obtain ⟨c, d⟩ := H.sendH_tb e.rHost (stamp e g)
    exact ⟨a.trans c, b.trans d⟩
theorem Hst.aft_tab (H : Hst) (sd : Int) (c1 : Conn) (l : List Seg) : (H.aft sd c1 l).p.tab = H.p.tab ∧ (H.aft sd c1 l).p.addr = H.p.addr := Hst.emitH_tb _ _ _
theorem Hst.conH_tab (H : Hst) (rh rp : Int) : (H.conH rh rp).p.tab = H.p.tab ∧ (H.conH rh rp).p.addr = H.p.addr := by
  unfold Hst.conH
  repeat' split
  all_goals first | exact ⟨rfl, rfl⟩ | exact Hst.emitH_tb _ _ _
theorem Out.callW {w w' : W} {h : Nat} {H' : Hst} {fr : List (List Int)} {kk : Nat} (o : Out w w' h H' fr kk) {L L3 : Nat → Ned} {x z : Wrld} (kp : Keep w.n L L3) (hw : z.wr = wPuts x.wr fr) (hs : z.spilt = x.spilt + wSpill x.wr fr) (ht : ∀ j : Nat, j < 3 → H'.p.tab = (w.H h).p.tab ∧ H'.p.addr = (w.H h).p.addr) : CallW w L x w' L3 z := by
  obtain ⟨Dn, d1, d2, _, _, d5⟩ := o.D
  refine ⟨o.now, kp, ⟨Dn, d1, by rw [← d2]; exact hw, by rw [← d2]; exact hs, d5⟩, fun j hj => ?_⟩
  by_cases hjh : j = h
  · subst hjh; rw [o.hst]; exact ht 0 (by omega)
  · rw [o.H j hjh]; exact ⟨rfl, rfl⟩
/-- A FRAME COMES IN -/
def Wrld.input (x : Wrld) (i : Int) (d : Nat) (raw : List Int) : Wrld := ({ x with H := upA x.H d ((x.H d).inputH raw), dl := upA x.dl d (x.dl d + 1), wr := wRest x.wr i } : Wrld).put d ((x.H d).inputF raw)
theorem Law.inputE {w : W} {L : Nat → Ned} {x : Wrld} {k : Int} (A : Law w L x k) (hk : k ≤ 1125899906842624) {i : Int} {raw : List Int} (ht : wTake x.wr i = some raw) {d : Nat} (d3 : d < 3) {w' : W} (o : Out w w' d ((w.H d).inputH raw) ((w.H d).inputF raw) 3) (e : Eff w w' d) :
    (∀ s g, (x.H d).DispOk s g) ∧ ((x.H d).inputF raw).countP firstFrag ≤ 12 ∧ ((x.H d).inputF raw).length ≤ 24 ∧ ∃ L3 z, Look (x.input i d raw) z ∧ Law w' L3 z (k + 1) ∧ z.wr = (x.input i d raw).wr ∧ z.spilt = (x.input i d raw).spilt ∧ Keep w.n L L3 := by
  have hns : (w.H d).t.nextSd < 1152921504606846976 := by have := A.b.nsd d d3; omega
  obtain ⟨hb, hr⟩ := A.wr.take ht
  have hd : upA x.dl d (x.dl d + 1) d ≠ 0 := by rw [upA_at]; have := A.b.dl d; omega
  obtain ⟨S, hn⟩ := Eff.step A.inv A.kc o e hd A.ni
  have st := stage_of A.inv S.ends A.ni hn
  have eH := A.H d d3
  have lb : ((w.H d).inputH raw).lost ≤ (w.H d).lost + 200 := by
    unfold Hst.inputH
    have hp : ((w.H d).pIn raw).lost = (w.H d).lost ∧ ((w.H d).pIn raw).c = (w.H d).c := by unfold Hst.pIn; split <;> exact ⟨rfl, rfl⟩
    cases hs : (w.H d).segIn raw with
    | none => dsimp only; omega
    | some p =>
      obtain ⟨s, g⟩ := p
      dsimp only
      have hg : g.Ok := by
        unfold Hst.segIn at hs
        repeat' split at hs
        all_goals first
          | (cases hs; done)
          | (injection hs with hs
             injection hs with h1 h2
             rw [← h2]
             rename_i q
             exact segDec_isOk (Ipt.inp_data (A.inv.hi d d3).p (frPay_b hb)).1 (Decidable.not_not.1 q))
      have := Hst.dispH_lost (H := (w.H d).pIn raw) (by rw [hp.2]; exact (A.inv.hi d d3).c) s hg
      omega
  have wl : (wRest x.wr i).length ≤ 64 := by
    have := A.wl
    unfold wRest wRem
    split
    · rw [List.length_append, List.length_take, List.length_drop]; omega
    · exact this
  have seB : ∀ j, j < w'.n → ((w'.N j).sent.length : Int) ≤ 16 * (k + 1) := fun j hj => by
    have old : ∀ j, j < w.n → ((w.N j).sent.length : Int) ≤ 16 * (k + 1) := fun j hj => by have := A.b.sent j hj; omega
    have k0 := A.b.now
    cases e with
    | no e => rw [e.n] at hj; rw [e.N]; exact old j hj
    | row i e hh rd se cl =>
      rw [e.n] at hj
      by_cases hji : j = i
      · subst hji; rw [se]; exact old j hj
      · rw [e.N j hji]; exact old j hj
    | born e =>
      by_cases hjn : j < w.n
      · rw [e.N j hjn]; exact old j hjn
      · have : j = w.n := by have := e.n; omega
        subst this
        obtain ⟨_, _, _, _, _, _, _, _, _, ⟨_, _, q, _⟩, _⟩ := e.row
        rw [q]
        show ((0 : Nat) : Int) ≤ _
        omega
  have nB : w'.n ≤ w.n + 1 := by
    rcases hn with q | ⟨_, q⟩
    · omega
    · have := q.n; omega
  have dlB : ∀ j, 0 ≤ upA x.dl d (x.dl d + 1) j ∧ upA x.dl d (x.dl d + 1) j ≤ k + 1 := fun j => by
    have h1 := A.b.dl j
    by_cases hjd : j = d
    · subst hjd; rw [upA_at]; omega
    · rw [upA_ne _ _ hjd]; omega
  obtain ⟨P, c1, c2⟩ := A.preOut d3 o (by omega) S st lb (A.wr.rest i) wl nB seB dlB
  have hN : LL L w.n = x.N := A.N.symm
  rw [hN, ← eH] at P
  rw [← eH] at c1 c2
  obtain ⟨z, L3, l1, l2, l3, l4, l5⟩ := A.look P
  exact ⟨fun s g => by rw [eH]; exact A.inv.dispOk d3 hns s g, c1, c2, L3, z, l1, l2, l3, l4, l5⟩
theorem Law.input {w : W} {L : Nat → Ned} {x : Wrld} {k : Int} (A : Law w L x k) (hk : k ≤ 1125899906842624) {i : Int} {raw : List Int} (ht : wTake x.wr i = some raw) {d : Nat} (d3 : d < 3) :
    (∀ s g, (x.H d).DispOk s g) ∧ ((x.H d).inputF raw).countP firstFrag ≤ 12 ∧ ((x.H d).inputF raw).length ≤ 24 ∧ ∃ w' L3 z, Look (x.input i d raw) z ∧ Law w' L3 z (k + 1) := by
  have hns : (w.H d).t.nextSd < 1152921504606846976 := by have := A.b.nsd d d3; omega
  obtain ⟨hb, hr⟩ := A.wr.take ht
  obtain ⟨w', o, e⟩ := A.inv.input A.syn d3 hns hr
  obtain ⟨a, b, c, L3, z, l1, l2, _⟩ := A.inputE hk ht d3 o e
  exact ⟨a, b, c, w', L3, z, l1, l2⟩
/-- nothing happened -/
theorem Law.pre {w : W} {L : Nat → Ned} {x : Wrld} {k : Int} (A : Law w L x k) : Pre w x k w L w.n x := by
  have S := (NoEff.step (del := x.dl) A.inv A.kc (Out.stay A.inv A.syn 0) ⟨rfl, rfl, fun _ _ _ _ => Iff.rfl, fun _ => rfl, rfl, rfl⟩ A.ni).1
  have B := A.b
  exact ⟨A.inv, A.syn, A.kc, stage_of A.inv S.ends A.ni (.inl rfl), S.hs, A.N, A.H, rfl, rfl, rfl, rfl, A.tick, A.flood, A.out, fun _ _ => .inl rfl, fun _ _ => by omega, A.wr, A.wl, by omega, by omega, fun i hi => by have := B.sent i hi; omega, by omega, fun h => by have := B.dl h; omega⟩
theorem Law.stay {w : W} {L : Nat → Ned} {x : Wrld} {k : Int} (A : Law w L x k) : ∃ L3 z, Look x z ∧ Law w L3 z (k + 1) ∧ CallW w L x w L3 z ∧ CallE w w := by
  obtain ⟨z, L3, l1, l2, l3, l4, l5⟩ := A.look A.pre
  exact ⟨L3, z, l1, l2, ⟨rfl, l5, ⟨[], by simp, l3, by rw [l4]; show x.spilt = x.spilt + 0; omega, fun r hr => absurd hr (by simp)⟩, fun _ _ => ⟨rfl, rfl⟩⟩, .tab rfl rfl rfl rfl (fun j _ e c r => ⟨e, r, Sim.refl _⟩) (fun j _ e c r => ⟨e, r⟩) (LisK.same fun _ => rfl) (fun _ => rfl)⟩
/-- THE CLOCK TICKS -/
def Wrld.tk (x : Wrld) (d : Nat) (H' : Hst) (F : List (List Int)) : Wrld := ({ x with H := upA x.H d H', out := upA x.out d 0 } : Wrld).put d F
def Wrld.tick1 (x : Wrld) (d : Nat) : Wrld := x.tk d ((x.H d).tick0.tickH (x.H d).t.list) ((x.H d).tick0.tickF (x.H d).t.list)
theorem Wrld.tk_H (x : Wrld) (d : Nat) (H' : Hst) (F : List (List Int)) : (x.tk d H' F).H = upA x.H d H' := rfl
theorem Wrld.tk_out (x : Wrld) (d : Nat) (H' : Hst) (F : List (List Int)) (j : Nat) : (x.tk d H' F).out j = if j = d then ((F.countP firstFrag : Nat) : Int) else x.out j := by
  show upA (upA x.out d 0) d (upA x.out d 0 d + ((F.countP firstFrag : Nat) : Int)) j = _
  by_cases h : j = d
  · subst h; rw [upA_at, upA_at, if_pos rfl]; omega
  · rw [upA_ne _ _ h, upA_ne _ _ h, if_neg h]
def Wrld.tick0 (x : Wrld) : Wrld := { x with wr := wTick x.wr, ticks := x.ticks + 1 }
theorem HTick.out1 {w w' : W} {d : Nat} (T : HTick w w' d) (d3 : d < 3) {wr : List Flt} (hw : WrOk w.D w.now wr) : WrOk w'.D w'.now (wPuts wr ((w.H d).tick0.tickF (w.H d).t.list)) ∧ ((w.H d).tick0.tickF (w.H d).t.list).countP firstFrag ≤ 12 ∧ ((w.H d).tick0.tickF (w.H d).t.list).length ≤ 24 ∧ (((w.H d).tick0.tickF (w.H d).t.list).countP firstFrag : Int) = 24 - (w'.H d).p.credit := by
  obtain ⟨Dn, d1, d2, d3', d4, d5⟩ := T.D
  have hc : ((w.H d).tick0.tickF (w.H d).t.list).countP firstFrag = Dn.length := by rw [d2]; exact first_count Dn
  have hl : ((w.H d).tick0.tickF (w.H d).t.list).length ≤ 2 * Dn.length := by rw [d2]; exact frames_total Dn
  refine ⟨?_, by omega, by omega, by omega⟩
  have ok := T.go.inv.dgr_ok
  rw [d1] at ok ⊢
  rw [T.go.now]
  exact hw.out ok d5 d2
theorem Law.ticksE {w : W} {L : Nat → Ned} {x : Wrld} {k : Int} (A : Law w L x k) {w1 w2 w3 w' : W} (T : WTick w w1 w2 w3 w') : (∀ d, d < 3 → ((x.H d).tick0.tickOk (x.H d).t.list) ∧ ((x.H d).tick0.tickF (x.H d).t.list).countP firstFrag ≤ 12 ∧ ((x.H d).tick0.tickF (x.H d).t.list).length ≤ 24) ∧ ∃ L3 z, Look (((x.tick0.tick1 0).tick1 1).tick1 2) z ∧ Law w' L3 z (k + 1) ∧ z.wr = (((x.tick0.tick1 0).tick1 1).tick1 2).wr ∧ z.spilt = (((x.tick0.tick1 0).tick1 1).tick1 2).spilt ∧ Keep w.n L L3 := by
  have h0 : ({ w with now := w.now + 1 } : W).H = w.H := rfl
  have a1 : w1.H 1 = w.H 1 := T.t0.go.H 1 (by omega)
  have a2 : w2.H 2 = w.H 2 := (T.t1.go.H 2 (by omega)).trans (T.t0.go.H 2 (by omega))
  have H0 := A.H 0 (by omega); have H1 := A.H 1 (by omega); have H2 := A.H 2 (by omega)
  have wr0 : WrOk w.D (w.now + 1) (wTick x.wr) := A.wr.tick
  obtain ⟨p1, p2, p3, p4⟩ := T.t0.out1 (by omega) wr0
  obtain ⟨q1, q2, q3, q4⟩ := T.t1.out1 (by omega) p1
  obtain ⟨r1, r2, r3, r4⟩ := T.t2.out1 (by omega) q1
  have e0 : ({ w with now := w.now + 1 } : W).H 0 = x.H 0 := H0.symm
  rw [e0] at p1 p2 p3 p4 q1 r1
  rw [a1, ← H1] at q1 q2 q3 q4 r1
  rw [a2, ← H2] at r1 r2 r3 r4
  have k0 := T.t0.ok
  have k1 := T.t1.ok
  have k2 := T.t2.ok
  rw [e0] at k0
  rw [a1, ← H1] at k1
  rw [a2, ← H2] at k2
  refine ⟨fun d hd => ?_, ?_⟩
  · have hh : d = 0 ∨ d = 1 ∨ d = 2 := by omega
    rcases hh with rfl | rfl | rfl
    · exact ⟨k0, p2, p3⟩
    · exact ⟨k1, q2, q3⟩
    · exact ⟨k2, r2, r3⟩
  obtain ⟨S, hn⟩ := WTick.step (del := x.dl) A.inv A.kc T A.ni
  have st := stage_of A.inv S.ends A.ni (.inl hn)
  have eH : w'.H = w3.H := by rw [T.e]
  have eD : w'.D = w3.D := by rw [T.e]
  have en : w'.now = w.now + 1 := by rw [T.e, T.t2.go.now, T.t1.go.now, T.t0.go.now]
  have en3 : w3.now = w.now + 1 := by rw [T.t2.go.now, T.t1.go.now, T.t0.go.now]
  have f0 : w'.H 0 = (x.H 0).tick0.tickH (x.H 0).t.list := by rw [eH, T.t2.go.H 0 (by omega), T.t1.go.H 0 (by omega), T.t0.hst, e0]
  have f1 : w'.H 1 = (x.H 1).tick0.tickH (x.H 1).t.list := by rw [eH, T.t2.go.H 1 (by omega), T.t1.hst, a1, H1]
  have f2 : w'.H 2 = (x.H 2).tick0.tickH (x.H 2).t.list := by rw [eH, T.t2.hst, a2, H2]
  have c0 : (w1.H 0) = w'.H 0 := by rw [eH, T.t2.go.H 0 (by omega), T.t1.go.H 0 (by omega)]
  have c1 : (w2.H 1) = w'.H 1 := by rw [eH, T.t2.go.H 1 (by omega)]
  have c2 : (w3.H 2) = w'.H 2 := by rw [eH]
  rw [c0] at p4; rw [c1] at q4; rw [c2] at r4
  have B := A.b
  have P : Pre w x k w' L w.n (((x.tick0.tick1 0).tick1 1).tick1 2) := by
    have y1 : x.tick0.tick1 0 = x.tick0.tk 0 (w'.H 0) ((x.H 0).tick0.tickF (x.H 0).t.list) := by
      unfold Wrld.tick1
      have : x.tick0.H 0 = x.H 0 := rfl
      rw [this, f0]
    have y2 : (x.tick0.tick1 0).tick1 1 = (x.tick0.tk 0 (w'.H 0) ((x.H 0).tick0.tickF (x.H 0).t.list)).tk 1 (w'.H 1) ((x.H 1).tick0.tickF (x.H 1).t.list) := by
      rw [y1]
      conv => lhs; unfold Wrld.tick1
      have : (x.tick0.tk 0 (w'.H 0) ((x.H 0).tick0.tickF (x.H 0).t.list)).H 1 = x.H 1 := by rw [Wrld.tk_H, upA_ne _ _ (by decide)]; rfl
      rw [this, f1]
    have y3 : ((x.tick0.tick1 0).tick1 1).tick1 2 = ((x.tick0.tk 0 (w'.H 0) ((x.H 0).tick0.tickF (x.H 0).t.list)).tk 1 (w'.H 1) ((x.H 1).tick0.tickF (x.H 1).t.list)).tk 2 (w'.H 2) ((x.H 2).tick0.tickF (x.H 2).t.list) := by
      rw [y2]
      conv => lhs; unfold Wrld.tick1
      have : ((x.tick0.tk 0 (w'.H 0) ((x.H 0).tick0.tickF (x.H 0).t.list)).tk 1 (w'.H 1) ((x.H 1).tick0.tickF (x.H 1).t.list)).H 2 = x.H 2 := by rw [Wrld.tk_H, upA_ne _ _ (by decide), Wrld.tk_H, upA_ne _ _ (by decide)]; rfl
      rw [this, f2]
    rw [y3]
    generalize (x.H 0).tick0.tickF (x.H 0).t.list = F0 at *
    generalize (x.H 1).tick0.tickF (x.H 1).t.list = F1 at *
    generalize (x.H 2).tick0.tickF (x.H 2).t.list = F2 at *
    have sp0 := wSpill_b (wTick x.wr) F0
    have sp1 := wSpill_b (wPuts (wTick x.wr) F0) F1
    have sp2 := wSpill_b (wPuts (wPuts (wTick x.wr) F0) F1) F2
    refine ⟨T.inv, T.syn, S.kc, st, S.hs, A.N, fun h h3 => ?_, rfl, rfl, rfl, rfl, ?_, ?_, fun h h3 => ?_, fun h h3 => ?_, fun h h3 => ?_, ?_, ?_, by rw [en]; omega, by omega, fun i hi => ?_, ?_, fun h => by have := B.dl h; show 0 ≤ x.dl h ∧ x.dl h ≤ k + 1; omega⟩
    · have hh : h = 0 ∨ h = 1 ∨ h = 2 := by omega
      show upA (upA (upA x.H 0 (w'.H 0)) 1 (w'.H 1)) 2 (w'.H 2) h = w'.H h
      rcases hh with rfl | rfl | rfl
      · rw [upA_ne _ _ (by decide), upA_ne _ _ (by decide), upA_at]
      · rw [upA_ne _ _ (by decide), upA_at]
      · rw [upA_at]
    · show x.ticks + 1 = w'.now
      rw [en, A.tick]
    · show (((x.flood || decide (12 < F0.countP firstFrag)) || decide (12 < F1.countP firstFrag)) || decide (12 < F2.countP firstFrag)) = false
      rw [A.flood, decide_eq_false (by omega), decide_eq_false (by omega), decide_eq_false (by omega)]; rfl
    · have hh : h = 0 ∨ h = 1 ∨ h = 2 := by omega
      rw [Wrld.tk_out, Wrld.tk_out, Wrld.tk_out]
      rcases hh with rfl | rfl | rfl
      · rw [if_neg (by decide), if_neg (by decide), if_pos rfl]; exact p4
      · rw [if_neg (by decide), if_pos rfl]; exact q4
      · rw [if_pos rfl]; exact r4
    · have hh : h = 0 ∨ h = 1 ∨ h = 2 := by omega
      rcases hh with rfl | rfl | rfl
      · have := T.t0.lost; rw [c0] at this; exact this
      · have := T.t1.lost; rw [c1, a1] at this; exact this
      · have := T.t2.lost; rw [c2, a2] at this; exact this
    · have hh : h = 0 ∨ h = 1 ∨ h = 2 := by omega
      have tb : ∀ d : Nat, ((x.H d).tick0.tickH (x.H d).t.list).lost ≤ (x.H d).lost + 200 := fun d => by
        have h1 := Hst.tickH_lost (x.H d).t.list (x.H d).tick0
        have h2 := (x.H d).t.list_len
        have h3 : (x.H d).tick0.lost = (x.H d).lost := rfl
        omega
      rcases hh with rfl | rfl | rfl
      · rw [f0, ← H0]; exact tb 0
      · rw [f1, ← H1]; exact tb 1
      · rw [f2, ← H2]; exact tb 2
    · rw [eD, en, ← en3]; exact r1
    · exact wPuts_len _ (wPuts_len _ (wPuts_len _ (by show (wTick x.wr).length ≤ 64; unfold wTick; rw [List.length_map]; exact A.wl)))
    · rw [hn] at hi
      rw [T.N]; have := B.sent i hi; omega
    · show x.spilt ≤ x.spilt + wSpill (wTick x.wr) F0 + wSpill (wPuts (wTick x.wr) F0) F1 + wSpill (wPuts (wPuts (wTick x.wr) F0) F1) F2 ∧ x.spilt + wSpill (wTick x.wr) F0 + wSpill (wPuts (wTick x.wr) F0) F1 + wSpill (wPuts (wPuts (wTick x.wr) F0) F1) F2 ≤ x.spilt + 72
      omega
  obtain ⟨z, L3, l1, l2, l3, l4, l5⟩ := A.look P
  exact ⟨L3, z, l1, l2, l3, l4, l5⟩
theorem Law.ticks {w : W} {L : Nat → Ned} {x : Wrld} {k : Int} (A : Law w L x k) : (∀ d, d < 3 → ((x.H d).tick0.tickOk (x.H d).t.list) ∧ ((x.H d).tick0.tickF (x.H d).t.list).countP firstFrag ≤ 12 ∧ ((x.H d).tick0.tickF (x.H d).t.list).length ≤ 24) ∧ ∃ w' L3 z, Look (((x.tick0.tick1 0).tick1 1).tick1 2) z ∧ Law w' L3 z (k + 1) := by
  obtain ⟨w1, w2, w3, w', T⟩ := A.inv.wtick A.syn
  obtain ⟨a, L3, z, l1, l2, _⟩ := A.ticksE T
  exact ⟨a, w', L3, z, l1, l2⟩
end Go.Proofs.Qxb6500351aGreat
