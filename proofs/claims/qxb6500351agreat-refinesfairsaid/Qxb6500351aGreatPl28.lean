/- THE PLAIN LAW of the whole network, part 11: a host ticks. No Go in sight. -/
import Derived.Test.Qxb6500351aGreatPl27
set_option linter.unusedVariables false
set_option linter.unusedSimpArgs false
namespace Go.Proofs.Qxb6500351aGreat
open Go.Eng
/-- what may happen to end i between two looks -/
structure TrI (w w' : W) (i : Nat) : Prop where
  stay : ∀ e0 c0, w.row i e0 c0 → (∃ e1 c1, w'.row i e1 c1 ∧ mayStep c0.x.st c1.x.st = true ∧ (c0.x.st = 4 → c1.x.why = c0.x.why ∨ (c0.x.why = 0 ∧ c1.x.why = 20)) ∧ (c1.x.st = 3 → c0.x.st = 3)) ∨ ((∀ e c, ¬ w'.row i e c) ∧ c0.x.st = 4)
  absent : (∀ e c, ¬ w.row i e c) → ∀ e c, ¬ w'.row i e c
theorem mayStep_refl (a : Int) : mayStep a a = true := by unfold mayStep; simp
theorem mayStep_trans {a b c : Int} (h : mayStep a b = true) (k : mayStep b c = true) : mayStep a c = true := by
  unfold mayStep at *
  by_cases h1 : a = b
  · subst h1; exact k
  · by_cases h2 : b = c
    · subst h2; exact h
    · simp only [h1, decide_false, Bool.false_or, h2] at h k
      by_cases h3 : a = 1 ∨ a = 2
      · rw [if_pos h3] at h ⊢
        rw [decide_eq_true_eq] at h
        rw [if_neg (by omega)] at k
        by_cases h4 : b = 3
        · rw [if_pos h4, decide_eq_true_eq] at k
          simp [k]
        · rw [if_neg h4] at k; cases k
      · rw [if_neg h3] at h
        by_cases h4 : a = 3
        · rw [if_pos h4, decide_eq_true_eq] at h
          rw [if_neg (by omega), if_neg (by omega)] at k; cases k
        · rw [if_neg h4] at h; cases h
theorem TrI.refl (w : W) (i : Nat) : TrI w w i := ⟨fun e0 c0 r => .inl ⟨e0, c0, r, mayStep_refl _, fun _ => .inl rfl, id⟩, fun h => h⟩
theorem TrI.same {w w' : W} {i : Nat} (h : ∀ e c, w'.row i e c ↔ w.row i e c) : TrI w w' i := ⟨fun e0 c0 r => .inl ⟨e0, c0, (h e0 c0).2 r, mayStep_refl _, fun _ => .inl rfl, id⟩, fun ha e c r => ha e c ((h e c).1 r)⟩
theorem TrI.pre {w w' w'' : W} {i : Nat} (h : ∀ e c, w'.row i e c ↔ w.row i e c) (k : TrI w' w'' i) : TrI w w'' i :=
  ⟨fun e0 c0 r => k.stay e0 c0 ((h e0 c0).2 r), fun ha => k.absent (fun e c r => ha e c ((h e c).1 r))⟩
theorem TrI.post {w w' w'' : W} {i : Nat} (k : TrI w w' i) (h : ∀ e c, w''.row i e c ↔ w'.row i e c) : TrI w w'' i :=
  ⟨fun e0 c0 r => by
    rcases k.stay e0 c0 r with ⟨e1, c1, r1, m⟩ | ⟨ab, st⟩
    · exact .inl ⟨e1, c1, (h e1 c1).2 r1, m⟩
    · exact .inr ⟨fun e c r => ab e c ((h e c).1 r), st⟩, fun ha e c r => k.absent ha e c ((h e c).1 r)⟩
/-- the world goes on, and host h alone does -/
structure Go (w w' : W) (h : Nat) : Prop where
  inv : Inv w'
  n : w'.n = w.n
  N : w'.N = w.N
  now : w'.now = w.now
  H : ∀ j, j ≠ h → w'.H j = w.H j
  q : ∀ j, j ≠ h → w'.q j = w.q j
theorem ent_of {H : Hst} {sd : Int} {e : En} (h : H.t.at sd = some e) : H.ent sd = e ∧ H.err sd = 0 := by
  unfold Hst.ent Hst.err
  rw [Tb.get_at, h]; exact ⟨rfl, rfl⟩
theorem ent_no {H : Hst} {sd : Int} (h : H.t.at sd = none) : H.err sd = 21 := by
  unfold Hst.err
  rw [Tb.get_at, h]
theorem Inv.end_of {w : W} (I : Inv w) {h : Nat} (h3 : h < 3) {sd : Int} {e : En} (he : (w.H h).t.at sd = some e) (hk : e.kind = 2) : ∃ i, i < w.n ∧ (w.N i).host = (h : Int) ∧ (w.N i).sd = sd ∧ w.host i = w.H h ∧ (w.N i).host.toNat = h ∧ w.row i e ((w.H h).c e.slot.toNat) := by
  obtain ⟨i, i1, i2, i3⟩ := I.ends h h3 sd e he hk
  have hh : (w.N i).host.toNat = h := by rw [i2]; simp
  have hw : w.host i = w.H h := by unfold W.host; rw [hh]
  exact ⟨i, i1, i2, i3, hw, hh, ⟨by rw [hw, i3]; exact he, hk, by rw [hw]⟩⟩
open Classical in
/-- the records of a list of rows' ticks -/
structure TickL (w w' : W) (h : Nat) (l : List Int) : Prop where
  go : Go w w' h
  hst : w'.H h = (w.H h).tickH l
  ok : (w.H h).tickOk l
  D : ∃ Dn, w'.D = w.D ++ Dn ∧ (w.H h).tickF l = (Dn.map Rc.frames).flatten ∧ Dn.length ≤ 3 * l.countP (fun sd => decide (((w.H h).ent sd).kind = 2)) ∧ (w'.H h).p.credit = (w.H h).p.credit - Dn.length ∧ ∀ r, r ∈ Dn → r.t = w.now
  tk : ∀ i, i < w.n → (w'.tk i = if (w.N i).host = (h : Int) ∧ (w.N i).sd ∈ l ∧ (∃ e c, w.row i e c) then w.now else w.tk i)
  tr : ∀ i, i < w.n → TrI w w' i
  same : ∀ i, i < w.n → ¬ ((w.N i).host = (h : Int) ∧ (w.N i).sd ∈ l) → ∀ e c, w'.row i e c ↔ w.row i e c
  at_ : ∀ x, x ∉ l → (w'.H h).t.at x = (w.H h).t.at x
  atk : ∀ x e, (w'.H h).t.at x = some e → (w.H h).t.at x = some e
  nsd : (w'.H h).t.nextSd = (w.H h).t.nextSd
  lost : (w'.H h).lost = (w.H h).lost ∨ ((w.H h).lost < (w'.H h).lost ∧ (w'.H h).p.credit = 0)
  qs : ∀ x, (w'.q h x).Sublist (w.q h x)
  g : ∀ i, (w.G i).Le (w'.G i) ∧ (w'.G i).rd = (w.G i).rd
  rowT : ∀ i e0 c0, i < w.n → (w.N i).host = (h : Int) → (w.N i).sd ∈ l → w.row i e0 c0 → (c0.tick.1.x.st ≠ 0 → w'.row i e0 c0.tick.1) ∧ (c0.tick.1.x.st = 0 → ∀ e c, ¬ w'.row i e c) ∧ ∀ Dn, w'.D = w.D ++ Dn → (w'.H h).lost = (w.H h).lost → ∀ s, s ∈ c0.tick.2 → ∃ r, r ∈ Dn ∧ r.src = (h : Int) + 1 ∧ r.dst = e0.rHost ∧ r.g = stamp e0 s
  onlyT : ∀ Dn, w'.D = w.D ++ Dn → ∀ r, r ∈ Dn → ∃ i e0 c0, i < w.n ∧ (w.N i).host = (h : Int) ∧ (w.N i).sd ∈ l ∧ w.row i e0 c0 ∧ ∃ s, s ∈ c0.tick.2 ∧ r.g = stamp e0 s
theorem emit_len {now : Int} {e : En} : ∀ (L : List (Seg × Kd)) (H : Hst) (m : Int), (emitR now e H m L).length ≤ L.length
  | [], H, m => Nat.le_refl _
  | (g, k) :: L, H, m => by
    unfold emitR
    split
    · have := emit_len (now := now) (e := e) L (H.sendH e.rHost (stamp e g)) m
      simp only [List.length_cons]; omega
    · have := emit_len (now := now) (e := e) L (H.sendH e.rHost (stamp e g)) (m + 1)
      simp only [List.length_cons]; omega
theorem Inv.tick_one {w : W} (I : Inv w) {h : Nat} (h3 : h < 3) (clk : (w.H h).clock = w.now) {sd : Int} {e0 : En} (he : (w.H h).t.at sd = some e0) (ht : ∀ i, i < w.n → (w.N i).host = (h : Int) → (w.N i).sd = sd → w.tk i + 1 = w.now) : ∃ w', TickL w w' h [sd] := by
  obtain ⟨en1, er1⟩ := ent_of he
  have HI := I.hi h h3
  by_cases hk : ¬ e0.kind = 2
  · have sk := Hst.tick_skip (H := w.H h) (sd := sd) (by rw [en1]; exact fun k => hk k.2)
    refine ⟨w, ⟨I, rfl, rfl, rfl, fun _ _ => rfl, fun _ _ => rfl⟩, ?_, ?_, ⟨[], by simp, ?_, by simp, by simp⟩, fun i hi => ?_, fun i hi => TrI.refl w i, fun i hi _ e c => Iff.rfl, fun x _ => rfl, fun x e h => h, rfl, .inl rfl, fun x => List.Sublist.refl _, fun i => ⟨Gh.Le.refl _, rfl⟩, fun i e c hi a b r => ?_, fun Dn hDn r hr => ?_⟩
    · simp only [Hst.tickH]; exact sk.1.symm
    · simp only [Hst.tickOk, and_true]
      intro _ h2; rw [en1] at h2; exact absurd h2 hk
    · simp only [Hst.tickF, sk.2]; rfl
    · rw [if_neg]
      rintro ⟨a, b, e, c, r⟩
      have hw : w.host i = w.H h := by unfold W.host; rw [a]; simp
      have b : (w.N i).sd = sd := by simpa using b
      have := r.at_
      rw [hw, b, he] at this
      cases this
      exact hk r.kind
    · exfalso
      have hw : w.host i = w.H h := by unfold W.host; rw [a]; simp
      have b : (w.N i).sd = sd := by simpa using b
      have := r.at_
      rw [hw, b, he] at this
      cases this
      exact hk r.kind
    · have hDn : w.D ++ Dn = w.D ++ [] := by rw [← hDn, List.append_nil]
      rw [List.append_cancel_left hDn] at hr; exact absurd hr (by simp)
  · have hk : e0.kind = 2 := Decidable.not_not.1 hk
    obtain ⟨i, i1, i2, i3, i4, i5, r⟩ := I.end_of h3 he hk
    have hti := ht i i1 i2 i3
    have hcn : (w.H h).cn sd = (w.H h).c e0.slot.toNat := by unfold Hst.cn; rw [en1]
    have slot0 := (HI.good.kindC (Tb.at_row he).choose_spec.1 (Tb.at_row he).choose_spec.2.2.1 (by rw [hk]; decide)).slot
    have only : ∀ j, j < w.n → ((w.N j).host = (h : Int) ∧ (w.N j).sd ∈ [sd]) → j = i := fun j hj hjj => I.uniq j i hj i1 (hjj.1.trans i2.symm) (by have := hjj.2; simp at this; exact this.trans i3.symm)
    have hadr : (w.H h).addr = (h : Int) + 1 := HI.addr
    have nxt_ok : (w.H h).p.nxt_ = w.M (w.H h).addr % 256 := by rw [hadr]; exact I.nxt h h3
    rcases I.tick1 i1 r (by rw [i4]; exact clk) hti with ⟨n0, len, L, g1, hL, hD⟩ | ⟨s0, st4, sg, t', f1, f2, f3, f4, f5, f6⟩
    · have go := Hst.tick_go (H := w.H h) (sd := sd) er1 (by rw [en1]; exact hk) (w.H h).t (by rw [hcn, if_neg n0])
      rw [hcn, en1] at go
      have T := Tab.same I i1 r
      obtain ⟨r1, r2⟩ := put_row (c1 := ((w.H h).c e0.slot.toNat).tick.1) (L := L) (g1 := g1) (q' := w.q (w.N i).host.toNat) I i1 r T.at_ T.sim (SameId.refl _)
      have hH : (w.put i e0 ((w.H h).c e0.slot.toNat).tick.1 (w.host i).t (w.q (w.N i).host.toNat) L g1 (w.N i)).H h = (w.H h).tickH1 sd := by
        have e1 : (w.put i e0 ((w.H h).c e0.slot.toNat).tick.1 (w.host i).t (w.q (w.N i).host.toNat) L g1 (w.N i)).H h = { (w.host i).emitH e0 (L.map Prod.fst) with c := upA (w.host i).c e0.slot.toNat ((w.H h).c e0.slot.toNat).tick.1, t := (w.host i).t } := by
          rw [← i5]; exact upA_at ..
        rw [e1, go.1, hL, i4]
        unfold Hst.aft
        rw [en1]
      have hHn : ∀ j, j ≠ h → (w.put i e0 ((w.H h).c e0.slot.toNat).tick.1 (w.host i).t (w.q (w.N i).host.toNat) L g1 (w.N i)).H j = w.H j := fun j hj => upA_ne _ _ (by rw [i5]; exact hj)
      obtain ⟨ep, ec, el⟩ := emitH_p (now := w.now) (e := e0) L (w.H h) (w.M (w.H h).addr) (I.hT h).2.1
      have hp : ((w.H h).tickH1 sd).p = ((w.H h).emitH e0 (L.map Prod.fst)).p := by rw [go.1, hL]; unfold Hst.aft; rw [en1]
      have hlo' : ((w.H h).tickH1 sd).lost = ((w.H h).emitH e0 (L.map Prod.fst)).lost := by rw [go.1, hL]; unfold Hst.aft; rw [en1]
      have ht1 : ((w.H h).tickH1 sd).t = (w.H h).t := by rw [go.1]
      have hN : (w.put i e0 ((w.H h).c e0.slot.toNat).tick.1 (w.host i).t (w.q (w.N i).host.toNat) L g1 (w.N i)).N = w.N := upA_same _ _ _ rfl
      refine ⟨_, ⟨hD.inv, rfl, hN, rfl, hHn, fun j hj => upA_ne _ _ (by rw [i5]; exact hj)⟩, ?_, ?_, ⟨emitR w.now e0 (w.H h) (w.M (w.H h).addr) L, ?_, ?_, ?_, ?_, fun r hr => by obtain ⟨_, _, _, q, _⟩ := emitR_mem L _ _ r hr; exact q⟩, fun j hj => ?_, fun j hj => ?_, fun j hj hnj => ?_, fun x _ => ?_, fun x e hx => ?_, ?_, ?_, fun x => ?_, fun j => ?_, fun j e c hj ha hb rr => ?_, fun Dn hDn r' hr' => ?_⟩
      · rw [hH]; rfl
      · simp only [Hst.tickOk, and_true]
        intro _ _
        rw [en1, hcn]
        exact ⟨slot0, fun h0 => absurd h0 n0⟩
      · show w.D ++ emitR w.now e0 (w.host i) (w.M (w.host i).addr) L = _
        rw [i4]
      · simp only [Hst.tickF, List.append_nil]
        rw [go.2, ← hL]
        exact emitF_frames L (w.H h) _ HI.pa nxt_ok
      · have := emit_len (now := w.now) (e := e0) L (w.H h) (w.M (w.H h).addr)
        have h2 := congrArg List.length hL
        rw [List.length_map] at h2
        have h3 : [sd].countP (fun sd => decide (((w.H h).ent sd).kind = 2)) = 1 := by simp [en1, hk]
        rw [h3]; omega
      · rw [hH, hp]; exact ep.credit
      · by_cases hji : j = i
        · subst hji
          rw [if_pos ⟨i2, by rw [i3]; simp, _, _, r⟩]; exact put_tk
        · rw [if_neg (fun k => hji (only j hj ⟨k.1, k.2.1⟩))]; exact put_tkn hji
      · by_cases hji : j = i
        · subst hji
          refine ⟨fun e c rr => ?_, fun ha => absurd r (ha _ _)⟩
          obtain ⟨q1, q2⟩ := rr.inj r
          subst q1 q2
          refine .inl ⟨e, _, r1, hD.may, hD.why, fun h3' => ?_⟩
          have hwo := hD.wo
          rw [h3'] at hwo
          have hwo : (w.N j).wasOpen = true := by rw [hwo]; simp
          cases I.sta j hj e _ r with
          | syn cl pe o t pa nc wo z zs => rw [wo] at hwo; cases hwo
          | srv p cl pe o t pa nx nc wo z zs => rw [wo] at hwo; cases hwo
          | well p m rel wl wc wo b =>
            rcases wl.st with k | k
            · exact k.1.st
            · have := hD.may; rw [k.1, h3'] at this; cases this
          | bad st why av pf b => have := hD.may; rw [st, h3'] at this; cases this
        · exact TrI.same (r2 j hj hji)
      · by_cases hji : j = i
        · subst hji; exact absurd ⟨i2, by rw [i3]; simp⟩ hnj
        · exact r2 j hj hji
      · rw [hH, ht1]
      · rw [hH, ht1] at hx; exact hx
      · rw [hH, ht1]
      · rw [hH, hlo', hp]; exact el
      · have : (w.put i e0 ((w.H h).c e0.slot.toNat).tick.1 (w.host i).t (w.q (w.N i).host.toNat) L g1 (w.N i)).q h = w.q h := by
          rw [← i5]; exact upA_at ..
        rw [this]; exact List.Sublist.refl _
      · by_cases hji : j = i
        · subst hji; rw [put_G]; exact ⟨hD.gle, hD.grd⟩
        · rw [put_Gn hji]; exact ⟨Gh.Le.refl _, rfl⟩
      · have hji := only j hj ⟨ha, hb⟩
        subst hji
        obtain ⟨q1, q2⟩ := rr.inj r
        subst q1 q2
        refine ⟨fun _ => r1, fun k => absurd k n0, fun Dn hDn hlo s hs => ?_⟩
        have hDn : w.D ++ emitR w.now e (w.host j) (w.M (w.host j).addr) L = w.D ++ Dn := hDn
        have e1 := List.append_cancel_left hDn
        subst e1
        have hlo0 : ((w.H h).emitH e (L.map Prod.fst)).lost = (w.H h).lost := by rw [← hlo', ← hH]; exact hlo
        obtain ⟨r', a1, a2, a3, a4⟩ := emitR_full (now := w.now) (e := e) L (w.H h) (w.M (w.H h).addr) (I.hT h).2.1 hlo0 s (by rw [hL]; exact hs)
        exact ⟨r', by rw [i4]; exact a1, a2.trans hadr, a3, a4⟩
      · have hDn : w.D ++ emitR w.now e0 (w.host i) (w.M (w.host i).addr) L = w.D ++ Dn := hDn
        rw [← List.append_cancel_left hDn] at hr'
        obtain ⟨g, kd, g1, _, _, _, g5, _⟩ := emitR_mem _ _ _ _ hr'
        refine ⟨i, e0, _, i1, i2, by rw [i3]; simp, r, g, ?_, g5⟩
        rw [← hL]; exact List.mem_map.2 ⟨_, g1, rfl⟩
    · have go := Hst.tick_go (H := w.H h) (sd := sd) er1 (by rw [en1]; exact hk) t' (by rw [hcn, if_pos s0]; rw [i4, i3] at f1; rw [f1])
      rw [hcn, en1, sg] at go
      have hH : (w.drop i e0 ((w.H h).c e0.slot.toNat).tick.1 t' (updQ (w.q (w.N i).host.toNat) e0.parent ((w.q (w.N i).host.toNat e0.parent).erase (w.N i).sd))).H h = (w.H h).tickH1 sd := by
        have e1 : (w.drop i e0 ((w.H h).c e0.slot.toNat).tick.1 t' (updQ (w.q (w.N i).host.toNat) e0.parent ((w.q (w.N i).host.toNat e0.parent).erase (w.N i).sd))).H h = { (w.host i) with c := upA (w.host i).c e0.slot.toNat ((w.H h).c e0.slot.toNat).tick.1, t := t' } := by
          rw [← i5]; exact upA_at ..
        rw [e1, go.1, i4]
        unfold Hst.aft
        rw [en1]; rfl
      have hHn : ∀ j, j ≠ h → (w.drop i e0 ((w.H h).c e0.slot.toNat).tick.1 t' (updQ (w.q (w.N i).host.toNat) e0.parent ((w.q (w.N i).host.toNat e0.parent).erase (w.N i).sd))).H j = w.H j := fun j hj => upA_ne _ _ (by rw [i5]; exact hj)
      have hp : ((w.H h).tickH1 sd).p = (w.H h).p ∧ ((w.H h).tickH1 sd).lost = (w.H h).lost ∧ ((w.H h).tickH1 sd).t = t' := by rw [go.1]; exact ⟨rfl, rfl, rfl⟩
      rw [i4, i3] at f3
      refine ⟨_, ⟨f4, rfl, rfl, rfl, hHn, fun j hj => upA_ne _ _ (by rw [i5]; exact hj)⟩, ?_, ?_, ⟨[], ?_, ?_, by simp, ?_, fun r hr => absurd hr (by simp)⟩, fun j hj => ?_, fun j hj => ?_, fun j hj hnj => ?_, fun x hx => ?_, fun x e hx => ?_, ?_, ?_, fun x => ?_, fun j => ⟨Gh.Le.refl _, rfl⟩, fun j e c hj ha hb rr => ?_, (fun Dn hDn r hr => by
        have hDn : w.D = w.D ++ Dn := hDn
        have hDn : w.D ++ Dn = w.D ++ [] := by rw [← hDn, List.append_nil]
        rw [List.append_cancel_left hDn] at hr; exact absurd hr (by simp))⟩
      · rw [hH]; rfl
      · simp only [Hst.tickOk, and_true]
        intro _ _
        rw [en1, hcn]
        exact ⟨slot0, fun _ => HI.good.freeOk HI.k he⟩
      · show w.D = w.D ++ []
        simp
      · simp only [Hst.tickF, List.append_nil]
        rw [go.2]; rfl
      · rw [hH, hp.1]; simp
      · by_cases hji : j = i
        · subst hji
          rw [if_pos ⟨i2, by rw [i3]; simp, _, _, r⟩]; exact upA_at ..
        · rw [if_neg (fun k => hji (only j hj ⟨k.1, k.2.1⟩))]; exact upA_ne _ _ hji
      · by_cases hji : j = i
        · subst hji
          refine ⟨fun e c rr => ?_, fun ha => absurd r (ha _ _)⟩
          obtain ⟨q1, q2⟩ := rr.inj r
          subst q1 q2
          exact .inr ⟨f5, st4⟩
        · exact TrI.same (f6 j hj hji)
      · by_cases hji : j = i
        · subst hji; exact absurd ⟨i2, by rw [i3]; simp⟩ hnj
        · exact f6 j hj hji
      · rw [hH, hp.2.2, f3, if_neg (by simpa using hx)]
      · rw [hH, hp.2.2, f3] at hx
        split at hx
        · cases hx
        · exact hx
      · rw [hH, hp.2.2]
        obtain ⟨u, u1, u2, u3, _⟩ := HI.good.freeC HI.tok.blocks he (by rw [hk]; decide)
        rw [i4, i3, u1] at f1
        cases f1
        exact u3
      · rw [hH, hp.2.1]; exact .inl rfl
      · have : (w.drop i e0 ((w.H h).c e0.slot.toNat).tick.1 t' (updQ (w.q (w.N i).host.toNat) e0.parent ((w.q (w.N i).host.toNat e0.parent).erase (w.N i).sd))).q h = updQ (w.q h) e0.parent ((w.q h e0.parent).erase (w.N i).sd) := by
          rw [← i5]; exact upA_at ..
        rw [this]
        by_cases hx : x = e0.parent
        · subst hx; rw [updQ_at]; exact List.erase_sublist
        · rw [updQ_ne _ _ hx]; exact List.Sublist.refl _
      · have hji := only j hj ⟨ha, hb⟩
        subst hji
        obtain ⟨q1, q2⟩ := rr.inj r
        subst q1 q2
        exact ⟨fun k => absurd s0 k, fun _ => f5, fun Dn _ _ s hs => by rw [sg] at hs; simp at hs⟩
theorem Inv.tick_list {h : Nat} (h3 : h < 3) : ∀ (l : List Int) (w : W), Inv w → (w.H h).clock = w.now → l.Nodup → (∀ sd, sd ∈ l → ∃ e, (w.H h).t.at sd = some e) → (∀ i, i < w.n → (w.N i).host = (h : Int) → (w.N i).sd ∈ l → w.tk i + 1 = w.now) → ∃ w', TickL w w' h l
  | [], w, I, clk, hn, hp, ht => by
    refine ⟨w, ⟨I, rfl, rfl, rfl, fun _ _ => rfl, fun _ _ => rfl⟩, rfl, trivial, ⟨[], by simp, rfl, by simp, by simp⟩, fun i hi => ?_, fun i hi => TrI.refl w i, fun i hi _ e c => Iff.rfl, fun x _ => rfl, fun x e h => h, rfl, .inl rfl, fun x => List.Sublist.refl _, fun i => ⟨Gh.Le.refl _, rfl⟩, fun i e c hi a b => absurd b (by simp), (fun Dn hDn r hr => by
      have hDn : w.D ++ Dn = w.D ++ [] := by rw [← hDn, List.append_nil]
      rw [List.append_cancel_left hDn] at hr; exact absurd hr (by simp))⟩
    rw [if_neg]; simp
  | sd :: l, w, I, clk, hn, hp, ht => by
    obtain ⟨hnl, hn'⟩ := List.nodup_cons.1 hn
    obtain ⟨e0, he0⟩ := hp sd (List.mem_cons_self ..)
    obtain ⟨w1, A⟩ := I.tick_one h3 clk he0 (fun i hi a b => ht i hi a (by rw [b]; exact List.mem_cons_self ..))
    have hsd : ∀ x, x ∈ l → x ≠ sd := fun x hx h => by subst h; exact hnl hx
    have clk1 : (w1.H h).clock = w1.now := by
      rw [A.go.now, A.hst]
      simp only [Hst.tickH]
      have : ((w.H h).tickH1 sd).clock = (w.H h).clock := by
        unfold Hst.tickH1; split
        · exact Hst.emitH_clock ((w.H h).ent sd) ((w.H h).cn sd).tick.2 (w.H h)
        · rfl
      rw [this, clk]
    obtain ⟨w', B⟩ := Inv.tick_list h3 l w1 A.go.inv clk1 hn' (fun x hx => by
      obtain ⟨e, he⟩ := hp x (List.mem_cons_of_mem _ hx)
      exact ⟨e, by rw [A.at_ x (by simpa using hsd x hx)]; exact he⟩) (fun i hi a b => by
      rw [A.go.n] at hi
      rw [A.go.N] at a b
      rw [A.tk i hi, if_neg (fun k => by have := k.2.1; simp at this; exact hsd _ b this), A.go.now]
      exact ht i hi a (List.mem_cons_of_mem _ b))
    obtain ⟨D1, a1, a2, a3, a4, a5⟩ := A.D
    obtain ⟨D2, b1, b2', b3, b4, b5⟩ := B.D
    have hh1 : w1.H h = (w.H h).tickH1 sd := A.hst
    refine ⟨w', ⟨B.go.inv, B.go.n.trans A.go.n, B.go.N.trans A.go.N, B.go.now.trans A.go.now, fun j hj => (B.go.H j hj).trans (A.go.H j hj), fun j hj => (B.go.q j hj).trans (A.go.q j hj)⟩, ?_, ?_, ⟨D1 ++ D2, ?_, ?_, ?_, ?_, fun r hr => (List.mem_append.1 hr).elim (a5 r) (fun k => (b5 r k).trans A.go.now)⟩, fun i hi => ?_, fun i hi => ?_, fun i hi hni e c => ?_, fun x hx => ?_, fun x e hx => A.atk x e (B.atk x e hx), B.nsd.trans A.nsd, ?_, fun x => (B.qs x).trans (A.qs x), fun j => ⟨(A.g j).1.trans (B.g j).1, (B.g j).2.trans (A.g j).2⟩, fun i e c hi ha hb r => ?_, fun Dn hDn r' hr' => ?_⟩
    · rw [B.hst, hh1]; rfl
    · simp only [Hst.tickOk]
      have := A.ok
      simp only [Hst.tickOk, and_true] at this
      exact ⟨this, by rw [← hh1]; exact B.ok⟩
    · rw [b1, a1, List.append_assoc]
    · simp only [Hst.tickF, List.append_nil] at a2 ⊢
      rw [a2, ← hh1, b2', List.map_append, List.flatten_append]
    · have e1 : l.countP (fun sd => decide (((w1.H h).ent sd).kind = 2)) = l.countP (fun sd => decide (((w.H h).ent sd).kind = 2)) := by
        refine List.countP_congr fun x hx => ?_
        have : (w1.H h).ent x = (w.H h).ent x := by
          unfold Hst.ent; rw [Tb.get_at, Tb.get_at, A.at_ x (by simpa using hsd x hx)]
        rw [this]
      rw [e1] at b3
      have e2 : (sd :: l).countP (fun sd => decide (((w.H h).ent sd).kind = 2)) = l.countP (fun sd => decide (((w.H h).ent sd).kind = 2)) + [sd].countP (fun sd => decide (((w.H h).ent sd).kind = 2)) := by
        simp [List.countP_cons]
      rw [List.length_append, e2]; omega
    · rw [b4, a4, List.length_append]; omega
    · rw [B.tk i (by rw [A.go.n]; exact hi), A.tk i hi, A.go.N, A.go.now]
      by_cases c1 : (w.N i).host = (h : Int) ∧ (w.N i).sd ∈ l
      · have hns : ¬ ((w.N i).host = (h : Int) ∧ (w.N i).sd ∈ [sd]) := fun k => by have := k.2; simp at this; exact hsd _ c1.2 this
        have hr : (∃ e c, w1.row i e c) ↔ ∃ e c, w.row i e c := ⟨fun ⟨e, c, k⟩ => ⟨e, c, (A.same i hi hns e c).1 k⟩, fun ⟨e, c, k⟩ => ⟨e, c, (A.same i hi hns e c).2 k⟩⟩
        have hm : (w.N i).sd ∈ sd :: l := List.mem_cons_of_mem _ c1.2
        rw [hr]
        by_cases c2 : ∃ e c, w.row i e c
        · rw [if_pos ⟨c1.1, c1.2, c2⟩, if_pos ⟨c1.1, hm, c2⟩]
        · rw [if_neg (fun k => c2 k.2.2), if_neg (fun k => c2 k.2.2), if_neg (fun k => c2 k.2.2)]
      · rw [if_neg (fun k => c1 ⟨k.1, k.2.1⟩)]
        have : ((w.N i).host = (h : Int) ∧ (w.N i).sd ∈ [sd] ∧ ∃ e c, w.row i e c) ↔ ((w.N i).host = (h : Int) ∧ (w.N i).sd ∈ sd :: l ∧ ∃ e c, w.row i e c) :=
          ⟨fun k => ⟨k.1, by have := k.2.1; simp at this; rw [this]; exact List.mem_cons_self .., k.2.2⟩, fun k => ⟨k.1, by
            rcases List.mem_cons.1 k.2.1 with a | a
            · rw [a]; simp
            · exact absurd ⟨k.1, a⟩ c1, k.2.2⟩⟩
        by_cases c2 : (w.N i).host = (h : Int) ∧ (w.N i).sd ∈ [sd] ∧ ∃ e c, w.row i e c
        · rw [if_pos c2, if_pos (this.1 c2)]
        · rw [if_neg c2, if_neg (fun k => c2 (this.2 k))]
    · by_cases c1 : (w.N i).host = (h : Int) ∧ (w.N i).sd ∈ [sd]
      · refine (A.tr i hi).post (B.same i (by rw [A.go.n]; exact hi) (fun k => ?_))
        rw [A.go.N] at k
        have := c1.2; simp at this
        exact hsd _ k.2 this
      · exact (B.tr i (by rw [A.go.n]; exact hi)).pre (A.same i hi c1)
    · rw [B.same i (by rw [A.go.n]; exact hi) (fun k => hni ⟨by rw [A.go.N] at k; exact k.1, by rw [A.go.N] at k; exact List.mem_cons_of_mem _ k.2⟩) e c]
      exact A.same i hi (fun k => hni ⟨k.1, by have := k.2; simp at this; rw [this]; exact List.mem_cons_self ..⟩) e c
    · rw [B.at_ x (fun k => hx (List.mem_cons_of_mem _ k)), A.at_ x (fun k => hx (by simp at k; rw [k]; exact List.mem_cons_self ..))]
    · have c1 := (B.go.inv.hT h).2.1
      have c2 := (A.go.inv.hT h).2.1
      rcases A.lost with k1 | ⟨k1, k2⟩ <;> rcases B.lost with k3 | ⟨k3, k4⟩
      · exact .inl (k3.trans k1)
      · exact .inr ⟨by omega, k4⟩
      · exact .inr ⟨by omega, by omega⟩
      · exact .inr ⟨by omega, k4⟩
    · have lo : (w'.H h).lost = (w.H h).lost → (w1.H h).lost = (w.H h).lost ∧ (w'.H h).lost = (w1.H h).lost := fun k => by
        rcases A.lost with k1 | ⟨k1, k2⟩ <;> rcases B.lost with k3 | ⟨k3, k4⟩ <;> omega
      have sp : ∀ Dn, w'.D = w.D ++ Dn → Dn = D1 ++ D2 := fun Dn h => by
        rw [b1, a1, List.append_assoc] at h
        exact (List.append_cancel_left h).symm
      rcases List.mem_cons.1 hb with hb | hb
      · have hm : (w.N i).sd ∈ [sd] := by rw [hb]; simp
        obtain ⟨q1, q0, q2⟩ := A.rowT i e c hi ha hm r
        have hni : ¬ ((w1.N i).host = (h : Int) ∧ (w1.N i).sd ∈ l) := fun k => by rw [A.go.N] at k; exact hsd _ k.2 hb
        refine ⟨fun k => (B.same i (by rw [A.go.n]; exact hi) hni e _).2 (q1 k), fun k e' c' r' => q0 k e' c' ((B.same i (by rw [A.go.n]; exact hi) hni e' c').1 r'), fun Dn hDn hlo s hs => ?_⟩
        rw [sp Dn hDn]
        obtain ⟨r', a1', a2'⟩ := q2 D1 a1 (lo hlo).1 s hs
        exact ⟨r', List.mem_append_left _ a1', a2'⟩
      · have hni : ¬ ((w.N i).host = (h : Int) ∧ (w.N i).sd ∈ [sd]) := fun k => by have := k.2; simp at this; exact hsd _ hb this
        obtain ⟨q1, q0, q2⟩ := B.rowT i e c (by rw [A.go.n]; exact hi) (by rw [A.go.N]; exact ha) (by rw [A.go.N]; exact hb) ((A.same i hi hni e c).2 r)
        refine ⟨q1, q0, fun Dn hDn hlo s hs => ?_⟩
        rw [sp Dn hDn]
        obtain ⟨r', a1', a2'⟩ := q2 D2 b1 (lo hlo).2 s hs
        exact ⟨r', List.mem_append_right _ a1', a2'⟩
    · have hDn : Dn = D1 ++ D2 := by
        rw [b1, a1, List.append_assoc] at hDn
        exact (List.append_cancel_left hDn).symm
      rw [hDn] at hr'
      rcases List.mem_append.1 hr' with q | q
      · obtain ⟨i, e, c, hi, ha, hb, r, s, s1, s2⟩ := A.onlyT D1 a1 r' q
        exact ⟨i, e, c, hi, ha, by have := hb; simp at this; rw [this]; exact List.mem_cons_self .., r, s, s1, s2⟩
      · obtain ⟨i, e, c, hi, ha, hb, r, s, s1, s2⟩ := B.onlyT D2 b1 r' q
        rw [A.go.n] at hi
        rw [A.go.N] at ha hb
        have hni : ¬ ((w.N i).host = (h : Int) ∧ (w.N i).sd ∈ [sd]) := fun k => by have := k.2; simp at this; exact hsd _ hb this
        exact ⟨i, e, c, hi, ha, List.mem_cons_of_mem _ hb, (A.same i hi hni e c).1 r, s, s1, s2⟩
end Go.Proofs.Qxb6500351aGreat
