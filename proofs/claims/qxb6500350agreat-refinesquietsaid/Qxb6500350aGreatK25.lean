/- PLAIN LAW: GROWTH BY ONE OBJECT; THE TREE LAYER'S PUT. -/
import Derived.Test.Qxb6500350aGreatK24
import Derived.Test.Qxb6500350aGreatT214
set_option linter.unusedVariables false
set_option linter.unusedSimpArgs false
set_option maxHeartbeats 1000000
namespace Go.Proofs.Qxb6500350aGreat
open Go.Eng Go
theorem flatMap_congr' {α β : Type} {f g : α → List β} : ∀ {l : List α}, (∀ a, a ∈ l → f a = g a) → l.flatMap f = l.flatMap g
  | [], _ => rfl
  | a :: l, h => by rw [List.flatMap_cons, List.flatMap_cons, h a (by simp), flatMap_congr' (fun b hb => h b (List.mem_cons_of_mem _ hb))]
/-- free ids hold nothing -/
def FreeE (A : Int → Ob) : Prop := ∀ i, 1 ≤ i → i ≤ 48 → (A i).st = 0 → A i = Ob.free
theorem Sto.freeE {s : Store} {D : Int → List UInt8} {A : Int → Ob} {root : Int} (h : Sto s D A root) : FreeE A := fun i h0 h1 hi => ((h.ent i h0 h1).fr hi).2
theorem Ext.used {A A' : Int → Ob} (h : Ext A A') (hf : FreeE A) {b : Int} (hb : usedB A b = true) : usedB A' b = true := by
  obtain ⟨i, h0, h1, h2⟩ := usedB_iff.1 hb
  refine usedB_iff.2 ⟨i, h0, h1, ?_⟩
  rw [h.live h0 h1 (fun e => by rw [hf i h0 h1 e] at h2; cases h2)]; exact h2
/-- the store has grown, all writes went to blocks that were unused -/
structure Grow (Kd : Int → Prop) (d : Dev) (A : Int → Ob) (d' : Dev) (A' : Int → Ob) : Prop where
  ext : Ext A A'
  kin : ∀ i, 1 ≤ i → i ≤ 48 → A' i = A i ∨ Kd (A' i).kind
  dev : ∃ k, DevTo d d' k (fun b => 1 ≤ b ∧ b < 145 ∧ usedB A b = false) ∧ k + 3 * nfr A' ≤ 3 * nfr A
theorem Grow.refl {Kd : Int → Prop} {d : Dev} {A : Int → Ob} (h : d.Good) : Grow Kd d A d A := ⟨.refl A, fun _ _ _ => .inl rfl, 0, .refl h, by omega⟩
theorem Grow.mono {Kd Kd' : Int → Prop} {d d' : Dev} {A A' : Int → Ob} (h : Grow Kd d A d' A') (hk : ∀ k, Kd k → Kd' k) : Grow Kd' d A d' A' := ⟨h.ext, fun i h0 h1 => (h.kin i h0 h1).imp id (hk _), h.dev⟩
theorem Grow.trans {Kd : Int → Prop} {d d' d'' : Dev} {A A' A'' : Int → Ob} (hf : FreeE A) (h : Grow Kd d A d' A') (k : Grow Kd d' A' d'' A'') : Grow Kd d A d'' A'' := by
  obtain ⟨a, a1, a2⟩ := h.dev
  obtain ⟨b, b1, b2⟩ := k.dev
  refine ⟨h.ext.trans k.ext, fun i h0 h1 => ?_, a + b, a1.trans (b1.mono fun x hx => ⟨hx.1, hx.2.1, ?_⟩), by omega⟩
  · rcases k.kin i h0 h1 with e | e
    · rw [e]; exact h.kin i h0 h1
    · exact .inr e
  rw [← Bool.not_eq_true]
  intro e
  rw [h.ext.used hf e] at hx
  exact absurd hx.2.2 (by decide)
theorem nfr_zero {A : Int → Ob} (h : ∀ j, 1 ≤ j → j ≤ 48 → (A j).st ≠ 0) : nfr A = 0 := by
  unfold nfr
  rw [List.length_eq_zero_iff, List.filter_eq_nil_iff]
  intro i hi
  have := mem_ids.1 hi
  simpa using h i this.1 this.2
theorem nbk_le3 (n : Nat) : nbk n ≤ 3 := nbk_3 n
theorem grow_one {d d' : Dev} {A : Int → Ob} {i : Int} {o : Ob} {x : List UInt8} (h0 : 1 ≤ i) (h1 : i ≤ 48) (hA : (A i).st = 0) (ho : o.st = 1) (hdv : DevTo d d' (nbk x.length) (fun b => 1 ≤ b ∧ b < 145 ∧ usedB A b = false)) :
    Grow (fun q => q = o.kind) d A d' (upd A i o) ∧ nfr A = nfr (upd A i o) + 1 := by
  have hn := nfr_less (A := A) (i := i) (o := o) h0 h1 hA (by omega)
  have := nbk_3 x.length
  refine ⟨⟨upd_ext hA ho, fun j _ _ => ?_, _, hdv, by omega⟩, hn⟩
  by_cases e : j = i
  · subst e; exact .inr (by simp [upd])
  · exact .inl (by simp [upd, e])
theorem Rw_new {A : Int → Ob} {i : Int} {o : Ob} (hA : (A i).st = 0) (hk : o.kind ≠ 2) : Rw (upd A i o) = Rw A := by
  funext j
  by_cases e : j = i
  · subst e
    rw [Rw_no (fun h => hk (by have := h.2.2.2; simpa [upd] using this)), Rw_no (fun h => Ob.lv_ne h.2.2.1 hA)]
  · exact Rw_congr (by simp [upd, e])
theorem Rw_newTree {A : Int → Ob} {i : Int} {o : Ob} {rs : List Line} (h : Rw (upd A i o) i = rs) : Rw (upd A i o) = upd (Rw A) i rs := by
  funext j
  by_cases e : j = i
  · subst e; rw [h]; simp [upd]
  · rw [Rw_congr (show upd A i o j = A j by simp [upd, e])]; simp [upd, e]
theorem cntAll_upd {R : Int → List Line} {i x : Int} {rs : List Line} (h0 : 1 ≤ i) (h1 : i ≤ 48) (hR : R i = []) : cntAll (upd R i rs) x = cntAll R x + cntR rs x := by
  unfold cntAll
  refine sum_one (c := i) ?_ (fun j hj => by simp [upd, hj]) ids_nodup (mem_ids.2 ⟨h0, h1⟩)
  simp [upd, hR, cntR]
theorem kindOf_upd {A : Int → Ob} {i j : Int} {o : Ob} (h0 : 1 ≤ i) (h1 : i ≤ 48) (ho : o.lv) : kindOf (upd A i o) j = upI (kindOf A) i o.kind j := by
  unfold kindOf upI upd
  by_cases e : j = i
  · subst e; rw [if_pos rfl]; simp only [if_true]; rw [if_pos ⟨h0, h1, ho⟩]
  · rw [if_neg e]; simp only [if_neg e]
section
variable {n : Nat} {t : Trees} {s : Store} {d : Dev} {A : Int → Ob} {root : Int}
theorem upI_tre {k : Int → Int} {i v : Int} {f : Int → Int} (h : ∀ j, 0 ≤ j → j ≤ 48 → k j = f j) : ∀ j, 0 ≤ j → j ≤ 48 → upI k i v j = upI f i v j := by
  intro j h0 h1
  unfold upI
  split
  · rfl
  · exact h j h0 h1
/-- Put of what is no tree -/
theorem tput_ok {k : Int} {x : List UInt8} (hn : 100000 ≤ n) (h : LT t s d A root) (hk0 : 1 ≤ k) (hk1 : k ≤ 4) (hk2 : k ≠ 2) (hx : x.length ≤ 180) :
    Ok (m214 n t s d k x) (fun r => (nfr A = 0 ∧ r = (0, 5, t, s, d)) ∨ ∃ i t' s' d' A', r = (i, 0, t', s', d') ∧ LT t' s' d' A' root ∧ Grow (fun q => q = k) d A d' A' ∧ nfr A ≤ nfr A' + 1 ∧
      1 ≤ i ∧ i ≤ 48 ∧ (A' i).lv ∧ (A' i).kind = k ∧ (A' i).data = x ∧ (∀ j, j ≠ i → A' j = A j)) := by
  unfold m214
  have hwr := h.wr
  refine Ok_ite (fun e => absurd e hk2) (fun _ => Ok_ob4 (Ok.mono (put_ok (k := k) (x := x) hn h.gd (by omega) h.st hk0 hk1 hx) (fun r hr => ?_)))
  rcases hr with ⟨i, i0, i1, i2, i3, i4, rfl⟩ | ⟨f1, f2, rfl⟩ | ⟨f1, i, P, s', d', i0, i1, i2, i3, rfl, i4, i5⟩
  · refine Ok_ite (fun _ => Ok_ck (by omega) (by show i < 49; omega) (Ok_nm (Ok.some' (.inr ⟨i, _, s, d, A, rfl, ?_, .refl h.gd, by omega, i0, i1, i2, i3, i4, fun j _ => rfl⟩)))) (fun e => absurd rfl e)
    refine ⟨h.gd, h.st, ⟨fun j j0 j1 => ?_, h.tr.ct⟩, h.ts, h.len, h.wr⟩
    show upI t.kind i k j = kindOf A j
    unfold upI
    by_cases e : j = i
    · subst e; rw [if_pos rfl]; unfold kindOf; rw [if_pos ⟨i0, i1, i2⟩, i3]
    · rw [if_neg e]; exact h.tr.kd j j0 j1
  · refine Ok_ite (fun e => absurd (show (5 : Int) = 0 from e) (by decide)) (fun _ => Ok.some' (.inl ⟨nfr_zero f1, rfl⟩))
  · refine Ok_ite (fun _ => Ok_ck (by omega) (by show i < 49; omega) (Ok_nm (Ok.some' (.inr ⟨i, _, s', d', upd A i ⟨1, k, x, P⟩, rfl, ?_, ?_, ?_, i0, i1, .inl (by simp [upd]), by simp [upd], by simp [upd], fun j hj => by simp [upd, hj]⟩)))) (fun e => absurd rfl e)
    · obtain ⟨g1, g2⟩ := grow_one (o := ⟨1, k, x, P⟩) i0 i1 i2 rfl i5
      have hst := i5.steps
      have hnb := nbk_3 x.length
      have hlen : ∀ j, isTr (upd A i ⟨1, k, x, P⟩) j → isTr A j := by
        intro j hj
        have hne : j ≠ i := by rintro rfl; have := hj.2.2.2; simp [upd] at this; exact hk2 this
        have := hj; unfold isTr at this; simpa [upd, hne] using this
      refine ⟨i5.good, i4, ⟨fun j j0 j1 => ?_, ?_⟩, h.ts.new i2 rfl hk2, fun j hj => ?_, by omega⟩
      · rw [kindOf_upd i0 i1 (.inl rfl)]
        exact upI_tre h.tr.kd j j0 j1
      · rw [Rw_new i2 hk2]; exact h.tr.ct
      · rw [g1.ext.flat (h.ts.ht j (hlen j hj))]; exact h.len j (hlen j hj)
    · exact (grow_one (o := ⟨1, k, x, P⟩) i0 i1 i2 rfl i5).1
    · have := (grow_one (o := ⟨1, k, x, P⟩) i0 i1 i2 rfl i5).2
      omega
/-- Put of a tree with sound rows, as the grouping walk does it -/
theorem tputTree_ok {rs : List Line} (hn : 100000 ≤ n) (h : LT t s d A root) (hr : RowsOk A rs) (hx : (rs.flatMap encL).length ≤ 180) (hh : ∀ r, r ∈ rs → r.dir = true → Ht A 5 r.id) (hl : (rs.flatMap (rowE A 5)).length ≤ 8) :
    Ok (ob4 (m274 n s d 2 (rs.flatMap encL)) fun c10 c11 z14 z15 =>
      cond (decide (¬ (c11 = 0))) (some (0, c11, t, z14, z15)) (Option.bind (ckA c10 49) fun _ =>
      cond (decide ((t.kind c10) = 0)) (Option.bind (ckA c10 49) fun _ => nm ({ t with kind := (upI t.kind c10 2) } : Trees) fun z16 =>
      ob1 (m245 n z16 (rs.flatMap encL) 1) fun z17 => some (c10, 0, z17, z14, z15)) (some (c10, 0, t, z14, z15))))
      (fun r => (nfr A = 0 ∧ r = (0, 5, t, s, d)) ∨ ∃ i t' s' d' A', r = (i, 0, t', s', d') ∧ LT t' s' d' A' root ∧ Grow (fun q => q = 2) d A d' A' ∧ nfr A ≤ nfr A' + 1 ∧ isTr A' i ∧ Rw A' i = rs) := by
  have hwr := h.wr
  refine Ok_ob4 (Ok.mono (put_ok (k := 2) (x := rs.flatMap encL) hn h.gd (by omega) h.st (by omega) (by omega) hx) (fun r hr' => ?_))
  rcases hr' with ⟨i, i0, i1, i2, i3, i4, rfl⟩ | ⟨f1, f2, rfl⟩ | ⟨f1, i, P, s', d', i0, i1, i2, i3, rfl, i4, i5⟩
  · refine Ok_ite (fun e => absurd rfl e) (fun _ => Ok_ck (by omega) (by show i < 49; omega) (Ok_ite (fun e => absurd i2 ((h.live0 i0 i1).1 e)) (fun _ => Ok.some' (.inr ⟨i, t, s, d, A, rfl, h, .refl h.gd, by omega, ⟨i0, i1, i2, i3⟩, Rw_eq i0 i1 ⟨i2, i3⟩ i4 hr.ok⟩))))
  · exact Ok_ite (fun _ => Ok.some' (.inl ⟨nfr_zero f1, rfl⟩)) (fun e => absurd (show ¬ ((5 : Int) = 0) by decide) e)
  · obtain ⟨g1, g2⟩ := grow_one (o := ⟨1, 2, rs.flatMap encL, P⟩) i0 i1 i2 rfl i5
    obtain ⟨n1, n2⟩ := h.ts.newTree (o := ⟨1, 2, rs.flatMap encL, P⟩) i0 i1 i2 rfl rfl rfl hr hh
    have hst := i5.steps
    have hnb := nbk_3 (rs.flatMap encL).length
    refine Ok_ite (fun e => absurd rfl e) (fun _ => Ok_ck (by omega) (by show i < 49; omega) (Ok_ite (fun _ => Ok_ck (by omega) (by show i < 49; omega) (Ok_nm ?_)) (fun e => absurd ((h.live0 i0 i1).2 (fun hl => Ob.lv_ne hl i2)) e)))
    have hcl : ∀ j, (Rw A j).length ≤ 180 := fun j => h.ts.rowsOf.len h.st.dlen j
    have htal := tally_ok (t := { t with kind := upI t.kind i 2 }) (v := 1) hn hr.ok (by omega) (.inl rfl) (fun x x0 x1 => by
      show _ ≤ t.count x ∧ t.count x ≤ _
      rw [h.tr.ct x (by omega) x1]
      have := cntAll_le (R := Rw A) hcl x
      omega)
    refine Ok_cl1 htal (Ok.some' (.inr ⟨i, _, s', d', upd A i ⟨1, 2, rs.flatMap encL, P⟩, rfl, ?_, g1, by omega, ⟨i0, i1, by rw [show upd A i ⟨1, 2, rs.flatMap encL, P⟩ i = ⟨1, 2, rs.flatMap encL, P⟩ by simp [upd]]; exact ⟨.inl rfl, rfl⟩⟩, n2⟩))
    refine ⟨i5.good, i4, ⟨fun j j0 j1 => ?_, fun j j0 j1 => ?_⟩, n1, fun j hj => ?_, by omega⟩
    · rw [kindOf_upd i0 i1 (.inl rfl)]
      exact upI_tre h.tr.kd j j0 j1
    · show t.count j + 1 * ((cntR rs j : Nat) : Int) = _
      rw [Rw_newTree n2, cntAll_upd i0 i1 (Rw_no (fun e => Ob.lv_ne e.2.2.1 i2)), h.tr.ct j j0 j1]
      omega
    · by_cases e : j = i
      · subst e
        rw [flatE_s, n2]
        have : rs.flatMap (rowE (upd A j ⟨1, 2, rs.flatMap encL, P⟩) 5) = rs.flatMap (rowE A 5) := by
          refine flatMap_congr' fun r hr' => ?_
          unfold rowE
          by_cases hd : r.dir = true
          · rw [if_pos hd, if_pos hd, g1.ext.flat (hh r hr' hd)]
          · rw [if_neg hd, if_neg hd]
        rw [this]; exact hl
      · have hj' : isTr A j := by have := hj; unfold isTr at this; simpa [upd, e] using this
        rw [g1.ext.flat (h.ts.ht j hj')]; exact h.len j hj'
end
end Go.Proofs.Qxb6500350aGreat
