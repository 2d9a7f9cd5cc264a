/- PLAIN LAW: LISTINGS OF TREES; GROWTH OF THE STORE. -/
import Derived.Test.Qxb6500350aGreatK21
set_option linter.unusedVariables false
set_option linter.unusedSimpArgs false
set_option maxHeartbeats 1000000
namespace Go.Proofs.Qxb6500350aGreat
open Go.Eng Go
/-- a live tree with its range -/
abbrev isTr (A : Int → Ob) (i : Int) : Prop := 1 ≤ i ∧ i ≤ 48 ∧ (A i).tree
abbrev isBl (A : Int → Ob) (i : Int) : Prop := 1 ≤ i ∧ i ≤ 48 ∧ (A i).lv ∧ (A i).kind = 1
def Entry.pre (p : Str) (e : Entry) : Entry := { e with path := p ++ e.path }
theorem Entry.pre_nil (e : Entry) : Entry.pre [] e = e := rfl
theorem Entry.pre_pre (p q : Str) (e : Entry) : Entry.pre p (Entry.pre q e) = Entry.pre (p ++ q) e := by unfold Entry.pre; simp
/-- the flat listing, by depth -/
def flatE (A : Int → Ob) : Nat → Int → List Entry
  | 0, _ => []
  | k + 1, i => (Rw A i).flatMap fun r => if r.dir then (flatE A k r.id).map (Entry.pre (r.name ++ [47])) else [{ path := r.name, id := r.id, mode := r.mode }]
/-- live trees stand at most k one within another -/
def Ht (A : Int → Ob) : Nat → Int → Prop
  | 0, _ => False
  | k + 1, i => isTr A i ∧ ∀ r, r ∈ Rw A i → r.dir = true → Ht A k r.id
theorem Ht.tr {A : Int → Ob} : ∀ {k : Nat} {i : Int}, Ht A k i → isTr A i
  | 0, _, h => h.elim
  | _ + 1, _, h => h.1
theorem Ht.mono {A : Int → Ob} : ∀ {k m : Nat} {i : Int}, Ht A k i → k ≤ m → Ht A m i
  | 0, _, _, h, _ => h.elim
  | k + 1, 0, _, _, h => absurd h (by omega)
  | k + 1, m + 1, i, h, hk => ⟨h.1, fun r hr hd => (h.2 r hr hd).mono (by omega)⟩
theorem flatE_mono {A : Int → Ob} : ∀ {k m : Nat} {i : Int}, Ht A k i → k ≤ m → flatE A m i = flatE A k i
  | 0, _, _, h, _ => h.elim
  | k + 1, 0, _, _, h => absurd h (by omega)
  | k + 1, m + 1, i, h, hk => by
    unfold flatE
    rw [List.flatMap_def, List.flatMap_def]
    congr 1
    refine List.map_congr_left fun r hr => ?_
    by_cases hd : r.dir = true
    · rw [if_pos hd, if_pos hd, flatE_mono (h.2 r hr hd) (by omega)]
    · rw [if_neg hd, if_neg hd]
/-- A' has grown out of A: some free ids are fresh -/
def Ext (A A' : Int → Ob) : Prop := ∀ i, 1 ≤ i → i ≤ 48 → A' i = A i ∨ ((A i).st = 0 ∧ (A' i).st = 1)
theorem Ext.refl (A : Int → Ob) : Ext A A := fun i _ _ => .inl rfl
theorem Ext.trans {A B C : Int → Ob} (h : Ext A B) (k : Ext B C) : Ext A C := by
  intro i h0 h1
  rcases h i h0 h1 with h2 | ⟨h2, h3⟩
  · rcases k i h0 h1 with k2 | ⟨k2, k3⟩
    · exact .inl (k2.trans h2)
    · exact .inr ⟨by rw [← h2]; exact k2, k3⟩
  · rcases k i h0 h1 with k2 | ⟨k2, k3⟩
    · exact .inr ⟨h2, by rw [k2]; exact h3⟩
    · omega
theorem Ext.live {A A' : Int → Ob} (h : Ext A A') {i : Int} (h0 : 1 ≤ i) (h1 : i ≤ 48) (hl : (A i).st ≠ 0) : A' i = A i := by
  rcases h i h0 h1 with h2 | ⟨h2, _⟩
  · exact h2
  · exact absurd h2 hl
theorem Ob.lv_ne {o : Ob} (h : o.lv) : o.st ≠ 0 := by rcases h with h | h <;> omega
theorem Ext.isTr {A A' : Int → Ob} (h : Ext A A') {i : Int} (ht : isTr A i) : Qxb6500350aGreat.isTr A' i := by
  have := h.live ht.1 ht.2.1 (Ob.lv_ne ht.2.2.1)
  unfold Qxb6500350aGreat.isTr; rw [this]; exact ht
theorem Ext.isBl {A A' : Int → Ob} (h : Ext A A') {i : Int} (ht : isBl A i) : Qxb6500350aGreat.isBl A' i := by
  have := h.live ht.1 ht.2.1 (Ob.lv_ne ht.2.2.1)
  unfold Qxb6500350aGreat.isBl; rw [this]; exact ht
theorem Ext.rw {A A' : Int → Ob} (h : Ext A A') {i : Int} (ht : Qxb6500350aGreat.isTr A i) : Rw A' i = Rw A i :=
  Rw_congr (h.live ht.1 ht.2.1 (Ob.lv_ne ht.2.2.1))
theorem Ext.ht {A A' : Int → Ob} (h : Ext A A') : ∀ {k : Nat} {i : Int}, Ht A k i → Ht A' k i
  | 0, _, hh => hh.elim
  | k + 1, i, hh => ⟨h.isTr hh.1, fun r hr hd => h.ht (hh.2 r (by rw [← h.rw hh.1]; exact hr) hd)⟩
theorem Ext.flat {A A' : Int → Ob} (h : Ext A A') : ∀ {k : Nat} {i : Int}, Ht A k i → flatE A' k i = flatE A k i
  | 0, _, hh => hh.elim
  | k + 1, i, hh => by
    unfold flatE
    rw [h.rw hh.1, List.flatMap_def, List.flatMap_def]
    congr 1
    refine List.map_congr_left fun r hr => ?_
    by_cases hd : r.dir = true
    · rw [if_pos hd, if_pos hd, h.flat (hh.2 r hr hd)]
    · rw [if_neg hd, if_neg hd]
theorem Ext.nfr {A A' : Int → Ob} (h : Ext A A') : nfr A' ≤ nfr A := by
  unfold Qxb6500350aGreat.nfr
  refine nodup_sub_le (ids_nodup.filter _) (fun i hi => ?_)
  obtain ⟨h1, h2⟩ := List.mem_filter.1 hi
  have hr := mem_ids.1 h1
  refine List.mem_filter.2 ⟨h1, decide_eq_true ?_⟩
  have h2 := of_decide_eq_true h2
  rcases h i hr.1 hr.2 with h3 | ⟨h3, _⟩
  · rw [← h3]; exact h2
  · exact h3
/-- the structure of the trees is sound -/
structure TreS (A : Int → Ob) : Prop where
  dat : ∀ j, isTr A j → (A j).data = (Rw A j).flatMap encL
  ok : ∀ j r, isTr A j → r ∈ Rw A j → r.Ok
  srt : ∀ j, isTr A j → (Rw A j).Pairwise fun a b => sLt (keyL a) (keyL b) = true
  fil : ∀ j r, isTr A j → r ∈ Rw A j → r.dir = false → isBl A r.id
  dir : ∀ j r, isTr A j → r ∈ Rw A j → r.dir = true → isTr A r.id ∧ (A r.id).data ≠ []
  nsl : ∀ j r, isTr A j → r ∈ Rw A j → (47 : UInt8) ∉ r.name
  ht : ∀ j, isTr A j → Ht A 6 j
theorem TreS.rowsOf {A : Int → Ob} (h : TreS A) : RowsOf A (Rw A) where
  tr := fun j h0 h1 h2 => ⟨h.dat j ⟨h0, h1, h2⟩, fun r hr => h.ok j r ⟨h0, h1, h2⟩ hr⟩
  no := fun j hj => Rw_no hj
/-- the rows that a tree may have in A -/
structure RowsOk (A : Int → Ob) (rs : List Line) : Prop where
  ok : ∀ r, r ∈ rs → r.Ok
  srt : rs.Pairwise fun a b => sLt (keyL a) (keyL b) = true
  fil : ∀ r, r ∈ rs → r.dir = false → isBl A r.id
  dir : ∀ r, r ∈ rs → r.dir = true → isTr A r.id ∧ (A r.id).data ≠ []
  nsl : ∀ r, r ∈ rs → (47 : UInt8) ∉ r.name
theorem RowsOk.ext {A A' : Int → Ob} (e : Ext A A') {rs : List Line} (h : RowsOk A rs) : RowsOk A' rs where
  ok := h.ok
  srt := h.srt
  fil := fun r hr hd => e.isBl (h.fil r hr hd)
  dir := fun r hr hd => by
    have := h.dir r hr hd
    refine ⟨e.isTr this.1, ?_⟩
    rw [e.live this.1.1 this.1.2.1 (Ob.lv_ne this.1.2.2.1)]; exact this.2
  nsl := h.nsl
theorem TreS.rows {A : Int → Ob} (h : TreS A) {j : Int} (hj : isTr A j) : RowsOk A (Rw A j) :=
  ⟨fun r => h.ok j r hj, h.srt j hj, fun r => h.fil j r hj, fun r => h.dir j r hj, fun r => h.nsl j r hj⟩
theorem TreS.mk' {A : Int → Ob} (h : ∀ j, isTr A j → (A j).data = (Rw A j).flatMap encL ∧ RowsOk A (Rw A j) ∧ Ht A 6 j) : TreS A where
  dat := fun j hj => (h j hj).1
  ok := fun j r hj => (h j hj).2.1.ok r
  srt := fun j hj => (h j hj).2.1.srt
  fil := fun j r hj => (h j hj).2.1.fil r
  dir := fun j r hj => (h j hj).2.1.dir r
  nsl := fun j r hj => (h j hj).2.1.nsl r
  ht := fun j hj => (h j hj).2.2
/-- a new object that is no tree keeps the structure -/
theorem upd_ext {A : Int → Ob} {i : Int} {o : Ob} (hA : (A i).st = 0) (ho : o.st = 1) : Ext A (upd A i o) := by
  intro j h0 h1
  unfold upd
  by_cases e : j = i
  · subst e; rw [if_pos rfl]; exact .inr ⟨hA, ho⟩
  · rw [if_neg e]; exact .inl rfl
theorem TreS.new {A : Int → Ob} (h : TreS A) {i : Int} {o : Ob} (hA : (A i).st = 0) (ho : o.st = 1) (hk : o.kind ≠ 2) : TreS (upd A i o) := by
  have e := upd_ext hA ho
  refine .mk' fun j hj => ?_
  have hne : j ≠ i := by rintro rfl; have := hj.2.2.2; simp [upd] at this; exact hk this
  have hj' : isTr A j := by have := hj; unfold isTr at this; simpa [upd, hne] using this
  rw [e.rw hj', e.live hj'.1 hj'.2.1 (Ob.lv_ne hj'.2.2.1)]
  exact ⟨h.dat j hj', (h.rows hj').ext e, e.ht (h.ht j hj')⟩
theorem TreS.newTree {A : Int → Ob} (h : TreS A) {i : Int} {o : Ob} {rs : List Line} (h0 : 1 ≤ i) (h1 : i ≤ 48) (hA : (A i).st = 0) (ho : o.st = 1) (hk : o.kind = 2) (hd : o.data = rs.flatMap encL) (hr : RowsOk A rs)
    (hh : ∀ r, r ∈ rs → r.dir = true → Ht A 5 r.id) : TreS (upd A i o) ∧ Rw (upd A i o) i = rs := by
  have e := upd_ext hA ho
  have hi : upd A i o i = o := by simp [upd]
  have hti : isTr (upd A i o) i := ⟨h0, h1, by rw [hi]; exact ⟨.inl ho, hk⟩⟩
  have hRw : Rw (upd A i o) i = rs := Rw_eq h0 h1 hti.2.2 (by rw [hi]; exact hd) hr.ok
  refine ⟨.mk' fun j hj => ?_, hRw⟩
  by_cases hne : j = i
  · subst hne
    rw [hRw, hi]
    exact ⟨hd, hr.ext e, hti, fun r hr' hd' => e.ht (hh r (by rw [← hRw]; exact hr') hd')⟩
  · have hj' : isTr A j := by have := hj; unfold isTr at this; simpa [upd, hne] using this
    rw [e.rw hj', e.live hj'.1 hj'.2.1 (Ob.lv_ne hj'.2.2.1)]
    exact ⟨h.dat j hj', (h.rows hj').ext e, e.ht (h.ht j hj')⟩
end Go.Proofs.Qxb6500350aGreat
