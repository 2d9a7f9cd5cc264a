/- PLAIN LAW: THE TREE LAYER'S COMMIT, ABORT, OPEN. -/
import Derived.Test.Qxb6500350aGreatK30
import Derived.Test.Qxb6500350aGreatT237
import Derived.Test.Qxb6500350aGreatT275
import Derived.Test.Qxb6500350aGreatT73
set_option linter.unusedVariables false
set_option linter.unusedSimpArgs false
set_option maxHeartbeats 1000000
namespace Go.Proofs.Qxb6500350aGreat
open Go.Eng Go
/-- the same live objects -/
def View (A A' : Int → Ob) : Prop := ∀ i, 1 ≤ i → i ≤ 48 → ((A' i).lv ↔ (A i).lv) ∧ ((A i).lv → (A' i).kind = (A i).kind ∧ (A' i).data = (A i).data)
section
variable {A A' : Int → Ob}
theorem View.isTr (h : View A A') {i : Int} : isTr A' i ↔ isTr A i := by
  constructor
  · rintro ⟨h0, h1, h2, h3⟩
    have := h i h0 h1
    have hl := this.1.1 h2
    exact ⟨h0, h1, hl, by rw [← (this.2 hl).1]; exact h3⟩
  · rintro ⟨h0, h1, h2, h3⟩
    have := h i h0 h1
    exact ⟨h0, h1, this.1.2 h2, by rw [(this.2 h2).1]; exact h3⟩
theorem View.isBl (h : View A A') {i : Int} : isBl A' i ↔ isBl A i := by
  constructor
  · rintro ⟨h0, h1, h2, h3⟩
    have := h i h0 h1
    have hl := this.1.1 h2
    exact ⟨h0, h1, hl, by rw [← (this.2 hl).1]; exact h3⟩
  · rintro ⟨h0, h1, h2, h3⟩
    have := h i h0 h1
    exact ⟨h0, h1, this.1.2 h2, by rw [(this.2 h2).1]; exact h3⟩
theorem View.data (h : View A A') {i : Int} (h0 : 1 ≤ i) (h1 : i ≤ 48) (hl : (A i).lv) : (A' i).data = (A i).data := ((h i h0 h1).2 hl).2
theorem View.rw (h : View A A') : Rw A' = Rw A := by
  funext j
  by_cases hj : Qxb6500350aGreat.isTr A j
  · have hd := h.data hj.1 hj.2.1 hj.2.2.1
    unfold Rw
    rw [if_pos (h.isTr.2 hj), if_pos hj, hd]
  · rw [Rw_no hj, Rw_no (fun e => hj (h.isTr.1 e))]
theorem View.ht (h : View A A') : ∀ {k : Nat} {i : Int}, Ht A' k i ↔ Ht A k i
  | 0, _ => Iff.rfl
  | k + 1, i => by
    show (Qxb6500350aGreat.isTr A' i ∧ ∀ r, r ∈ Rw A' i → r.dir = true → Ht A' k r.id) ↔ (Qxb6500350aGreat.isTr A i ∧ ∀ r, r ∈ Rw A i → r.dir = true → Ht A k r.id)
    rw [h.isTr, h.rw]
    exact and_congr_right fun _ => ⟨fun k r hr hd => h.ht.1 (k r hr hd), fun k r hr hd => h.ht.2 (k r hr hd)⟩
theorem View.flat (h : View A A') : ∀ {k : Nat} {i : Int}, flatE A' k i = flatE A k i
  | 0, _ => rfl
  | k + 1, i => by
    rw [flatE_s, flatE_s, h.rw]
    refine flatMap_congr' fun r _ => ?_
    unfold rowE
    rw [h.flat]
theorem View.mem (h : View A A') {x : Int} : ∀ {k : Nat} {i : Int}, Mem A' k i x ↔ Mem A k i x
  | 0, _ => Iff.rfl
  | k + 1, i => by
    show (x = i ∨ ∃ r, r ∈ Rw A' i ∧ if r.dir = true then Mem A' k r.id x else x = r.id) ↔ (x = i ∨ ∃ r, r ∈ Rw A i ∧ if r.dir = true then Mem A k r.id x else x = r.id)
    rw [h.rw]
    refine or_congr_right ⟨fun ⟨r, h1, h2⟩ => ⟨r, h1, ?_⟩, fun ⟨r, h1, h2⟩ => ⟨r, h1, ?_⟩⟩
    · by_cases hd : r.dir = true
      · rw [if_pos hd] at h2 ⊢; exact h.mem.1 h2
      · rw [if_neg hd] at h2 ⊢; exact h2
    · by_cases hd : r.dir = true
      · rw [if_pos hd] at h2 ⊢; exact h.mem.2 h2
      · rw [if_neg hd] at h2 ⊢; exact h2
theorem View.ts (h : View A A') (ts : TreS A) : TreS A' := by
  refine .mk' fun j hj' => ?_
  have hj := h.isTr.1 hj'
  have hr := ts.rows hj
  rw [h.rw, h.data hj.1 hj.2.1 hj.2.2.1]
  refine ⟨ts.dat j hj, ⟨hr.ok, hr.srt, fun r hr1 hd => h.isBl.2 (hr.fil r hr1 hd), fun r hr1 hd => ?_, hr.nsl⟩, h.ht.2 (ts.ht j hj)⟩
  have := hr.dir r hr1 hd
  exact ⟨h.isTr.2 this.1, by rw [h.data this.1.1 this.1.2.1 this.1.2.2.1]; exact this.2⟩
theorem View.kindOf (h : View A A') (i : Int) : kindOf A' i = kindOf A i := by
  unfold Qxb6500350aGreat.kindOf
  by_cases hl : 1 ≤ i ∧ i ≤ 48 ∧ (A i).lv
  · rw [if_pos hl, if_pos ⟨hl.1, hl.2.1, (h i hl.1 hl.2.1).1.2 hl.2.2⟩, ((h i hl.1 hl.2.1).2 hl.2.2).1]
  · rw [if_neg hl, if_neg (fun e => hl ⟨e.1, e.2.1, (h i e.1 e.2.1).1.1 e.2.2⟩)]
theorem View.tre (h : View A A') {t : Trees} (tr : Tre t A (Rw A)) : Tre t A' (Rw A') where
  kd := fun i h0 h1 => by rw [h.kindOf]; exact tr.kd i h0 h1
  ct := fun i h0 h1 => by rw [h.rw]; exact tr.ct i h0 h1
theorem View.tv (h : View A A') (ts : TreS A) {i : Int} {fs : List File} (hv : TV A i fs) : TV A' i fs := by
  refine ⟨h.isTr.2 hv.1, ?_⟩
  rw [h.flat, hv.2]
  refine List.map_congr_left fun x hx => ?_
  have := flatE_bl ts (ts.ht i hv.1) hx
  unfold valE
  rw [h.data this.1 this.2.1 this.2.2.1]
theorem cmt_view (A : Int → Ob) : View A (fun i => (A i).cmt) := by
  intro i h0 h1
  refine ⟨cmt_lv, fun hl => ?_⟩
  show (A i).cmt.kind = _ ∧ (A i).cmt.data = _
  unfold Ob.cmt
  rcases hl with h | h
  · rw [if_pos h]; exact ⟨rfl, rfl⟩
  · rw [if_neg (by omega), if_neg (by omega)]; exact ⟨rfl, rfl⟩
theorem nfr_le48 (A : Int → Ob) : nfr A ≤ 48 := nfr_le A
theorem Sto.congrA {s : Store} {D : Int → List UInt8} {root : Int} (h : Sto s D A root) (hA : ∀ i, 1 ≤ i → i ≤ 48 → A' i = A i) : Sto s D A' root := by
  have h1 := h.sti.congrA (A' := A') hA
  refine h1.sto (fun i h0 h2 => by rw [hA i h0 h2]) h.rd ?_ ?_ ?_
  · rw [h.sup]
    refine (supB_congr fun i h0 h2 => ?_).symm
    rw [hA i h0 h2]; exact ⟨Iff.rfl, fun _ => rfl⟩
  · rcases h.rt with h2 | ⟨h2, h3, h4⟩
    · exact .inl h2
    · exact .inr ⟨h2, h3, by rw [hA _ h2 h3]; exact h4⟩
  · intro i j a1 a2 a3 a4
    rw [hA i a1 a2, hA j a3 a4]
    exact h.tw i j a1 a2 a3 a4
end
section
variable {n : Nat} {t : Trees} {s : Store} {d : Dev} {A : Int → Ob} {root : Int}
theorem tcommit_ok {nr : Int} (hn : 100000 ≤ n) (h : LT t s d A root) (hd : d.at_.length < 700000) (hr : nr = 0 ∨ (1 ≤ nr ∧ nr ≤ 48 ∧ (A nr).lv)) :
    Ok (m237 n t s d nr) (fun r => r.1 = 0 ∧ LT t r.2.1 r.2.2 (fun i => (A i).cmt) nr ∧ r.2.2.base = d.base ∧ r.2.2.ws = d.ws ++ [(0, supB (fun i => (A i).cmt) nr)]) := by
  unfold m237
  refine Ok_ob3 (Ok.mono (commit_ok hn h.gd (by omega) h.st hr) (fun r hr => Ok.some' ?_))
  obtain ⟨r1, r2, r3, r4⟩ := hr
  have v := cmt_view A
  refine ⟨r1, ⟨r3.good, r2, v.tre h.tr, v.ts h.ts, fun j hj => ?_, ?_⟩, r3.base, r4⟩
  · rw [v.flat]; exact h.len j (v.isTr.1 hj)
  · have := nfr_le (fun i => (A i).cmt)
    have := r3.steps
    show r.2.2.at_.length + 3 * nfr _ < 800000
    omega
/-- kept or free -/
def Rest (A : Int → Ob) : Prop := ∀ i, 1 ≤ i → i ≤ 48 → (A i).st = 0 ∨ (A i).st = 2
theorem rest_abt {A0 : Int → Ob} (hr : Rest A0) (hf : FreeE A0) (e : Ext A0 A) : ∀ i, 1 ≤ i → i ≤ 48 → A0 i = (A i).abt := by
  intro i h0 h1
  rcases e i h0 h1 with h2 | ⟨h2, h3⟩
  · rw [h2]
    unfold Ob.abt
    rcases hr i h0 h1 with h3 | h3
    · rw [if_neg (by omega), if_neg (by omega)]
    · rw [if_neg (by omega), if_neg (by omega)]
  · unfold Ob.abt
    rw [if_pos h3]; exact hf i h0 h1 h2
theorem tabort_ok {A0 : Int → Ob} (hn : 100000 ≤ n) (h : LT t s d A root) (hd : d.at_.length < 700000) (hr : Rest A0) (hf : FreeE A0) (e : Ext A0 A) (ts : TreS A0) (len : ∀ j, isTr A0 j → (flatE A0 6 j).length ≤ 8) :
    Ok (m275 n t s d) (fun r => LT r.1 r.2 d A0 root) := by
  unfold m275
  have habt := rest_abt (A := A) hr hf e
  refine Ok_ob1 (Ok.mono (abort_ok hn h.gd.toWf h.st ?_) (fun s' hs => ?_))
  · intro i j a1 a2 a3 a4 hi hj hk hdt
    have key : ∀ k, 1 ≤ k → k ≤ 48 → ((A k).st = 2 ∨ (A k).st = 3) → A k = A0 k := by
      intro k k0 k1 k2
      rcases e k k0 k1 with h2 | ⟨_, h3⟩
      · exact h2
      · omega
    have hi' := key i a1 a2 hi
    have hj' := key j a3 a4 hj
    refine h.st.tw i j a1 a2 a3 a4 ?_ ?_ hk hdt
    · have := hr i a1 a2; rw [hi'] at hi ⊢; exact .inr (by omega)
    · have := hr j a3 a4; rw [hj'] at hj ⊢; exact .inr (by omega)
  · have hs0 : Sto s' d.B A0 root := hs.congrA (A := fun i => (A i).abt) (fun i h0 h1 => habt i h0 h1)
    refine Ok_ob1 (Ok.mono (rebuild_ok hn h.gd.toWf hs0 ts.rowsOf) (fun t' ht' => Ok.some' ⟨h.gd, hs0, ht', ts, len, ?_⟩))
    have := nfr_le A0
    omega
theorem topen_ok (hn : 100000 ≤ n) (hg : d.Good) (h : Las d.B A root) (ts : TreS A) (len : ∀ j, isTr A j → (flatE A 6 j).length ≤ 8) (hd : d.at_.length < 700000) :
    Ok (m72 n d) (fun s => Sto s d.B A root ∧ Ok (m73 n s d) (fun t => LT t s d A root)) := by
  refine Ok.mono (open_ok hn hg.toWf h) (fun s hs => ⟨hs, ?_⟩)
  unfold m73
  have := nfr_le A
  exact Ok_ob1 (Ok.mono (rebuild_ok hn hg.toWf hs ts.rowsOf) (fun t' ht' => Ok.some' ⟨hg, hs, ht', ts, len, by omega⟩))
end
end Go.Proofs.Qxb6500350aGreat
