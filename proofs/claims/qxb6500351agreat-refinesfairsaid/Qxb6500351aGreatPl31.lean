/- THE PLAIN LAW of the whole network, part 13: a frame comes in. No Go in sight. -/
import Derived.Test.Qxb6500351aGreatPl29
set_option linter.unusedVariables false
set_option linter.unusedSimpArgs false
namespace Go.Proofs.Qxb6500351aGreat
open Go.Eng
/-- the ends whose rows are gone catch up with the clock -/
theorem Inv.sync {w : W} (I : Inv w) (h : ∀ i, i < w.n → (∃ e c, w.row i e c) → w.tk i = w.now) : Inv { w with tk := fun _ => w.now } := by
  have rows : ∀ j e c, W.row { w with tk := fun _ => w.now } j e c ↔ w.row j e c := fun j e c => host_row w { w with tk := fun _ => w.now } rfl (fun _ => rfl) (fun _ => rfl) j e c
  have hmut : ∀ a b, W.mut { w with tk := fun _ => w.now } a b ↔ w.mut a b := fun a b => ⟨fun m => ⟨m.hi, m.hp, m.ip, m.pi⟩, fun m => ⟨m.hi, m.hp, m.ip, m.pi⟩⟩
  refine ⟨I.hi, I.hT, I.hist, I.nxt, I.ra, fun i hi => ?_, I.hostR, I.ends, fun i hi e c r => I.tup i hi e c ((rows i e c).1 r), I.uniq, I.old, I.ports, fun i hi e c r => ?_, fun i hi ha => I.gone i hi (fun e c r => ha e c ((rows i e c).2 r)), I.gh, fun i hi ha => I.new i hi (fun p m => ha p ((hmut i p).2 m)), I.kid, I.cli, fun i j hij hj ht => ?_, fun i p m => I.p5 i p ((hmut i p).1 m), fun i p m => I.pair i p ((hmut i p).1 m), fun i hi e c r => I.rd i hi e c ((rows i e c).1 r), fun r hr ht => ?_, I.gok⟩
  · have := I.tkn i hi
    show w.now ≤ w.now ∧ w.now ≤ w.now + 1 ∧ (w.G i).b ≤ w.now
    omega
  · have r0 := (rows i e c).1 r
    have et := h i hi ⟨e, c, r0⟩
    cases I.sta i hi e c r0 with
    | syn cl pe o t pa nc wo z zs => exact .syn cl pe o (by rw [et] at t; exact t) pa nc wo z zs
    | srv p cl pe o t pa nx nc wo z zs => exact .srv p cl pe o (by rw [et] at t; exact t) pa nx nc wo z zs
    | well p m r o wc wo b => exact .well p ((hmut i p).2 m) r o wc wo (fun k => by have := b k; rw [et] at this; exact this)
    | bad st why av pf b => exact .bad st why av pf (by rw [et] at b; exact b)
  · obtain ⟨a, b⟩ := I.ord i j hij hj ht
    exact ⟨fun e c r => a e c ((rows i e c).1 r), b⟩
  · have rt : r.t ≤ w.now := by
      have := (I.hist.ok r.dgr (List.mem_map_of_mem hr)).2
      have h2 := (I.hT (r.src - 1).toNat).1
      have e : r.dgr.t = r.t := rfl
      rw [e] at this
      have e2 : w.T r.dgr.src = (w.H (r.src - 1).toNat).clock := rfl
      rw [e2] at this; omega
    have ht : w.now - r.t ≤ 4 := ht
    refine (I.recs r hr ht).mono (w' := { w with tk := fun _ => w.now }) (Nat.le_refl _) (fun j _ => SameId.refl _) (fun j _ _ => rfl) (fun a b m => (hmut a b).2 m) (fun a j ha hp => .inl hp) (fun a b ha hb => I.peer_lt ha hb) (fun j _ => Gh.Le.refl _) (fun j _ => ⟨[], by simp, fun _ => rfl⟩) (fun j hj => (I.gh j hj).xn) (fun j B hj hw => ?_) (fun j q hj _ hq hp => ?_) rt (fun j hj => by have := (I.tkn j hj).1; omega)
    · have htk := (I.tkn j hj).1
      refine ⟨by have := hw.1; show (w.G j).X ≤ B + 12 * (w.now - w.tk j); omega, fun e c hr hs => ?_⟩
      have := hw.2 e c ((rows j e c).1 hr) hs
      show (w.G j).X + c.x.credit ≤ B + 12 * (w.now - w.tk j)
      omega
    · obtain ⟨e, c, hr, hs⟩ := hp
      have et := h j hj ⟨e, c, hr⟩
      refine ⟨e, c, (rows j e c).2 hr, fun h4 => ?_⟩
      have := hs h4
      show q - (w.now - w.tk j) ≤ _
      omega
theorem idle_slot {w : W} (I : Inv w) {h : Nat} (h3 : h < 3) {s : Int} (hs : 0 ≤ s ∧ s < 4) (hu : ∀ sd e, (w.H h).t.at sd = some e → e.kind = 2 → e.slot ≠ s) : ((w.H h).c s.toNat).x.st = 0 :=
  (I.hi h h3).idle s.toNat (by omega) (fun sd e he hk hx => hu sd e he hk (by omega))
/-- what the walk of Input asks -/
theorem Inv.dispOk {w : W} (I : Inv w) {h : Nat} (h3 : h < 3) (hn : (w.H h).t.nextSd < 1152921504606846976) (src : Int) (g : Seg) : (w.H h).DispOk src g := by
  have HI := I.hi h h3
  refine ⟨fun hl => ?_, fun hl hf hs => ⟨hn, fun hx => ?_, fun hc => ?_⟩⟩
  · rcases HI.good.lookup g.dp src g.sp with ⟨a, _⟩ | ⟨e, a1, a2, a3, a4, a5⟩
    · exact absurd a hl
    · obtain ⟨e1, e2⟩ := ent_of a1
      obtain ⟨i, i1, i2, i3, i4⟩ := Tb.at_row a1
      have ke := HI.good.kindC i1 i3 (by rw [a2]; decide)
      rw [e1]
      refine ⟨e2, ke.slot, fun hp hr => ?_⟩
      obtain ⟨u, _, _, _, _, _, _, hq⟩ := HI.good.ready a1 hp hr
      rw [i2, Int.toNat_natCast, (Tb.es_some.1 i3).2]
      exact hq
  · rcases HI.good.r.lrow g.dp with ⟨a, _⟩ | ⟨l, e, a1, a2, a3, _⟩
    · exact absurd a hx
    · rw [a2]
      intro hfr
      obtain ⟨fl, F⟩ := HI.good.f
      obtain ⟨_, _, _, _, f4, f5⟩ := F.head (by rw [hfr]; omega)
      rw [hfr, Int.toNat_natCast, a3] at f5; cases f5
  · rcases HI.good.child hs hl with ⟨_, a, _⟩ | ⟨u, slot, f, c1, c2, c3, c4, c5, c6, c7, c8, c9, c10, c11, c12, c13⟩
    · exact absurd hc a
    · rw [c1]
      dsimp only
      have hat := c13 (w.H h).t.nextSd
      rw [if_pos rfl] at hat
      rw [Tb.get_at, hat]
      exact ⟨rfl, c5, idle_slot I h3 c5 (fun sd e he hk => (c12 sd e he hk).2)⟩
end Go.Proofs.Qxb6500351aGreat
