/- PLAIN LAW: ABORT, COMMIT. -/
import Derived.Test.Qxb6500350aGreatK9
set_option linter.unusedVariables false
set_option linter.unusedSimpArgs false
set_option maxHeartbeats 1000000
namespace Go.Proofs.Qxb6500350aGreat
open Go.Eng Go
def Ob.abt (o : Ob) : Ob := if o.st = 1 then Ob.free else if o.st = 3 then { o with st := 2 } else o
def Ob.cmt (o : Ob) : Ob := if o.st = 1 then { o with st := 2 } else if o.st = 3 then Ob.free else o
/-- what f makes of the ids below c -/
def upTo (f : Ob → Ob) (A : Int → Ob) (c : Int) : Int → Ob := fun j => if j < c then f (A j) else A j
theorem upTo_succ (f : Ob → Ob) (A : Int → Ob) (c : Int) : upTo f A (c + 1) = upd (upTo f A c) c (f (A c)) := by
  funext j
  show (if j < c + 1 then f (A j) else A j) = if j = c then f (A c) else if j < c then f (A j) else A j
  by_cases h : j = c
  · subst h; rw [if_pos (by omega), if_pos rfl]
  · rw [if_neg h]
    by_cases h2 : j < c
    · rw [if_pos (by omega), if_pos h2]
    · rw [if_neg (by omega), if_neg h2]
theorem upTo_at (f : Ob → Ob) (A : Int → Ob) (c : Int) : upTo f A c c = A c := by unfold upTo; rw [if_neg (by omega)]
theorem Sti.congrA {s : Store} {D : Int → List UInt8} {A A' : Int → Ob} {H : Int → Prop} (h : Sti s D A H) (hA : ∀ i, 1 ≤ i → i ≤ 48 → A' i = A i) : Sti s D A' H := by
  refine ⟨fun i h0 h1 => by rw [hA i h0 h1]; exact h.ent i h0 h1, fun i j b a0 a1 b0 b1 ha hb => ?_, ?_, ?_, ?_, fun i h0 h1 hi => by rw [hA i h0 h1]; exact h.hs i h0 h1 hi⟩
  · rw [hA i a0 a1] at ha; rw [hA j b0 b1] at hb; exact h.dis i j b a0 a1 b0 b1 ha hb
  · have : usedB A' = usedB A := by
      funext b
      rw [Bool.eq_iff_iff, usedB_iff, usedB_iff]
      exact ⟨fun ⟨i, h0, h1, h2⟩ => ⟨i, h0, h1, by rw [← hA i h0 h1]; exact h2⟩, fun ⟨i, h0, h1, h2⟩ => ⟨i, h0, h1, by rw [hA i h0 h1]; exact h2⟩⟩
    rw [this]; exact h.um
  · rw [h.nf]; unfold nfr
    congr 2
    exact (List.filter_congr (fun x hx => by rw [hA x (mem_ids.1 hx).1 (mem_ids.1 hx).2])).symm
  · obtain ⟨L, hL⟩ := h.hg
    refine ⟨L, fun b b0 b1 => ?_⟩
    obtain ⟨l1, l2, l3⟩ := hL b b0 b1
    refine ⟨l1, l2, fun i => ?_⟩
    rw [l3 i]
    constructor
    · rintro ⟨g1, g2, g3, g4⟩; exact ⟨g1, g2, g3, by rw [hA i g1 g2]; exact g4⟩
    · rintro ⟨g1, g2, g3, g4⟩; exact ⟨g1, g2, g3, by rw [hA i g1 g2] at g4; exact g4⟩
theorem Sti.congrD {s : Store} {D D' : Int → List UInt8} {A : Int → Ob} {H : Int → Prop} (h : Sti s D A H) (hD : ∀ b, 1 ≤ b → b < 145 → D' b = D b) : Sti s D' A H := by
  refine ⟨fun i h0 h1 => ?_, h.dis, h.um, h.nf, h.hg, h.hs⟩
  have he := h.ent i h0 h1
  refine ⟨he.st, he.fr, fun hs => ?_⟩
  obtain ⟨f1, f2, f3, f4, f5, f6, f7, f8, f9, f10⟩ := he.nf hs
  exact ⟨f1, f2, f3, f4, f5, f6, f7, f8, f9.congr (fun b hb => by have := f9.mem b hb; exact hD b this.1 this.2), f10⟩
theorem abt_lv {o : Ob} : o.abt.lv ↔ o.st = 2 ∨ o.st = 3 := by
  unfold Ob.abt Ob.lv
  split
  · rename_i h; simp [Ob.free]; omega
  · split
    · rename_i h; simp [h]
    · omega
theorem cmt_lv {o : Ob} : o.cmt.lv ↔ o.lv := by
  unfold Ob.cmt Ob.lv
  split
  · rename_i h; simp [h]
  · split
    · rename_i h; simp [Ob.free]; omega
    · exact Iff.rfl
section
variable {n : Nat} {s : Store} {d : Dev} {A : Int → Ob} {root : Int}
theorem abort_loop (hn : 100000 ≤ n) (hd : d.Wf) (h : Sti s d.B A (fun i => (A i).lv)) (hr : ∀ i, 1 ≤ i → i ≤ 48 → 0 ≤ (A i).st ∧ (A i).st ≤ 3) :
    Ok (m303 n s d) (fun s' => Sti s' d.B (fun i => (A i).abt) (fun i => (A i).abt.lv) ∧ s'.root = s.root) := by
  unfold m303
  refine Ok_ob2 ?_
  unfold m303_w1
  refine Ok_it2 (fun (c : Int) (s' : Store) => 1 ≤ c ∧ c ≤ 49 ∧ Sti s' d.B (upTo Ob.abt A c) (fun i => (upTo Ob.abt A c i).lv) ∧ s'.root = s.root) (fun (c : Int) _ => (49 - c).toNat) ?_ n 1 s ⟨by omega, by omega, ?_, rfl⟩ (by show (49 - 1 : Int).toNat < n; omega)
  rotate_left
  · refine (h.congrA (A' := upTo Ob.abt A 1) (fun i h0 h1 => by unfold upTo; rw [if_neg (by omega)])).congrH (fun i h0 h1 => ?_)
    have : upTo Ob.abt A 1 i = A i := by unfold upTo; rw [if_neg (by omega)]
    rw [this]
  rintro Q lp c s' hQ ⟨i0, i1, i2, i3⟩ ih
  refine Ok_ite (fun hc => ?_) (fun hc => ?_)
  · have he := (i2.ent c i0 hc).st
    rw [upTo_at] at he
    have hlv : ∀ (o : Ob) (H : Int → Prop), o = (A c).abt → (∀ j, H j ↔ ((upTo Ob.abt A c j).lv ∧ j ≠ c) ∨ (j = c ∧ o.lv)) → ∀ j, 1 ≤ j → j ≤ 48 → (H j ↔ (upTo Ob.abt A (c + 1) j).lv) := by
      rintro o H rfl hH j j0 j1
      rw [hH j, upTo_succ]
      by_cases hj : j = c
      · subst hj; simp [upd]
      · simp [upd, hj]
    refine Ok_ck (by omega) (by omega) ?_
    rw [he]
    refine Ok_ite (fun h1 => ?_) (fun h1 => ?_)
    · have hab : (A c).abt = Ob.free := by unfold Ob.abt; rw [if_pos h1]
      refine Ok_ob1 ((unhang_ok hn i2 i0 hc (by rw [upTo_at]; exact .inl h1)).mono ?_)
      rintro s1 ⟨g1, g2⟩
      refine Ok_ob1 ((release_ok hn hd g1 i0 hc (by rw [upTo_at]; omega) (fun hh => hh.2 rfl)).mono ?_)
      rintro s2 ⟨g3, g4⟩
      simp (disch := omega) only [wi_of]
      refine ih _ _ ⟨by omega, by omega, ?_, g4.trans (g2.trans i3)⟩ (by omega)
      rw [← hab, ← upTo_succ] at g3
      refine g3.congrH (hlv _ _ rfl (fun j => ⟨fun hh => .inl hh, fun hh => ?_⟩))
      rcases hh with hh | ⟨_, hh⟩
      · exact hh
      · rw [hab] at hh; rcases hh with hh | hh <;> cases hh
    · refine Ok_ck (by omega) (by omega) ?_
      refine Ok_ite (fun h3 => ?_) (fun h3 => ?_)
      · have hab : (A c).abt = { (A c) with st := 2 } := by unfold Ob.abt; rw [if_neg h1, if_pos h3]
        refine Ok_ck (by omega) (by omega) (Ok_nm ?_)
        have g1 := i2.restate (i := c) (v := 2) (by rw [upTo_at]; omega) (by omega) (by omega)
        rw [upTo_at, ← hab, ← upTo_succ] at g1
        have hnl : ¬ (upTo Ob.abt A c c).lv := by rw [upTo_at]; rintro (h | h) <;> omega
        refine Ok_ob1 ((rehang_ok g1 i0 hc (by rw [upTo_succ]; simp only [upd, if_true]; rw [hab]; simp) hnl).mono ?_)
        rintro s2 ⟨g3, g4⟩
        simp (disch := omega) only [wi_of]
        refine ih _ _ ⟨by omega, by omega, ?_, g4.trans i3⟩ (by omega)
        refine g3.congrH (hlv _ _ rfl (fun j => ⟨fun hh => ?_, fun hh => ?_⟩))
        · rcases hh with hh | rfl
          · exact .inl ⟨hh, by rintro rfl; exact hnl hh⟩
          · exact .inr ⟨rfl, by rw [hab]; exact .inr rfl⟩
        · rcases hh with hh | hh
          · exact .inl hh.1
          · exact .inr hh.1
      · have hab : (A c).abt = A c := by unfold Ob.abt; rw [if_neg h1, if_neg h3]
        simp (disch := omega) only [wi_of]
        refine ih _ _ ⟨by omega, by omega, ?_, i3⟩ (by omega)
        have : upTo Ob.abt A (c + 1) = upTo Ob.abt A c := by
          rw [upTo_succ]; funext j; unfold upd
          by_cases hj : j = c
          · subst hj; rw [if_pos rfl, hab, upTo_at]
          · rw [if_neg hj]
        rw [this]; exact i2
  · refine Ok.some' (hQ _ (Ok.some' ⟨?_, i3⟩))
    have he : ∀ j, 1 ≤ j → j ≤ 48 → upTo Ob.abt A c j = (A j).abt := fun j j0 j1 => by unfold upTo; rw [if_pos (by omega)]
    exact (i2.congrA (A' := fun i => (A i).abt) (fun j j0 j1 => (he j j0 j1).symm)).congrH (fun j j0 j1 => by rw [he j j0 j1])
theorem Sto.rng {D : Int → List UInt8} (h : Sto s D A root) (i : Int) (h0 : 1 ≤ i) (h1 : i ≤ 48) : 0 ≤ (A i).st ∧ (A i).st ≤ 3 := by
  rcases Classical.em ((A i).st = 0) with h2 | h2
  · omega
  · have := (h.ent i h0 h1).nf h2; omega
/-- Abort -/
theorem abort_ok (hn : 100000 ≤ n) (hd : d.Wf) (h : Sto s d.B A root)
    (tw : ∀ i j, 1 ≤ i → i ≤ 48 → 1 ≤ j → j ≤ 48 → ((A i).st = 2 ∨ (A i).st = 3) → ((A j).st = 2 ∨ (A j).st = 3) → (A i).kind = (A j).kind → (A i).data = (A j).data → i = j) :
    Ok (m303 n s d) (fun s' => Sto s' d.B (fun i => (A i).abt) root) := by
  refine (abort_loop hn hd h.sti h.rng).mono ?_
  rintro s' ⟨g1, g2⟩
  have hst : ∀ i, ((A i).abt.st = 2 ∨ (A i).abt.st = 3 ↔ (A i).st = 2 ∨ (A i).st = 3) ∧ ((A i).st = 2 ∨ (A i).st = 3 → (A i).abt.bl = (A i).bl ∧ (A i).abt.kind = (A i).kind ∧ (A i).abt.data = (A i).data) := by
    intro i
    unfold Ob.abt
    split
    · rename_i h1; rw [h1]; simp [Ob.free]
    · split
      · rename_i h3; rw [h3]; simp
      · simp
  refine g1.sto (fun i _ _ => Iff.rfl) (g2.trans h.rd) ?_ ?_ ?_
  · rw [h.sup]
    exact (supB_congr (fun i _ _ => ⟨(hst i).1, fun hh => ((hst i).2 hh).1⟩)).symm
  · rcases h.rt with h6 | ⟨r0, r1, r2⟩
    · exact .inl h6
    · exact .inr ⟨r0, r1, (hst root).1.2 r2⟩
  · intro i j a0 a1 b0 b1 ha hb hk hdt
    have ha := abt_lv.1 ha
    have hb := abt_lv.1 hb
    rw [((hst i).2 ha).2.1, ((hst j).2 hb).2.1] at hk
    rw [((hst i).2 ha).2.2, ((hst j).2 hb).2.2] at hdt
    exact tw i j a0 a1 b0 b1 ha hb hk hdt
end
end Go.Proofs.Qxb6500350aGreat
