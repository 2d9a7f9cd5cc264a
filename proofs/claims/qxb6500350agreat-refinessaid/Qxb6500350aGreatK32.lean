/- PLAIN LAW: THE TREE LAYER'S DROP. -/
import Derived.Test.Qxb6500350aGreatK31
import Derived.Test.Qxb6500350aGreatT276
set_option linter.unusedVariables false
set_option linter.unusedSimpArgs false
set_option maxHeartbeats 1000000
namespace Go.Proofs.Qxb6500350aGreat
open Go.Eng Go
/-- no row of a live tree names i -/
def NoRow (A : Int → Ob) (i : Int) : Prop := ∀ j r, isTr A j → r ∈ Rw A j → r.id ≠ i
theorem cntAll_zero {A : Int → Ob} {i : Int} : cntAll (Rw A) i = 0 ↔ NoRow A i := by
  have hc : ∀ rs : List Line, cntR rs i = 0 ↔ ∀ r, r ∈ rs → r.id ≠ i := by
    intro rs
    unfold cntR
    rw [List.length_eq_zero_iff, List.filter_eq_nil_iff]
    exact ⟨fun h r hr e => h r hr (by simp [e]), fun h r hr => by simpa using h r hr⟩
  have key : ∀ l : List Int, (l.map fun j => cntR (Rw A j) i).sum = 0 ↔ ∀ j, j ∈ l → cntR (Rw A j) i = 0 := by
    intro l
    induction l with
    | nil => simp
    | cons a l ih => rw [List.map_cons, List.sum_cons, Nat.add_eq_zero_iff, ih, List.forall_mem_cons]
  unfold cntAll
  rw [key]
  constructor
  · intro h j r hj hr
    exact (hc _).1 (h j (mem_ids.2 ⟨hj.1, hj.2.1⟩)) r hr
  · intro h j hj
    refine (hc _).2 fun r hr => ?_
    by_cases ht : isTr A j
    · exact h j r ht hr
    · rw [Rw_no ht] at hr; cases hr
def drp (o : Ob) : Ob := if o.st = 1 then Ob.free else { o with st := 3 }
theorem drp_lv {o : Ob} (h : o.lv) : ¬ (drp o).lv := by
  unfold drp
  rcases h with h | h
  · rw [if_pos h]; rintro (h | h) <;> cases h
  · rw [if_neg (by omega)]; rintro (h | h); exact absurd (show (3 : Int) = 1 from h) (by decide); exact absurd (show (3 : Int) = 2 from h) (by decide)
section
variable {A : Int → Ob} {i : Int} {o : Ob}
theorem cut_tr (ho : ¬ o.lv) {j : Int} : isTr (upd A i o) j ↔ isTr A j ∧ j ≠ i := by
  unfold isTr upd
  by_cases e : j = i
  · subst e
    rw [if_pos rfl]
    exact ⟨fun h => absurd h.2.2.1 ho, fun h => absurd rfl h.2⟩
  · rw [if_neg e]; exact ⟨fun h => ⟨h, e⟩, fun h => h.1⟩
theorem cut_rw (ho : ¬ o.lv) : Rw (upd A i o) = upd (Rw A) i [] := by
  funext j
  by_cases e : j = i
  · subst e
    rw [Rw_no (fun h => ((cut_tr ho).1 h).2 rfl)]; simp [upd]
  · rw [Rw_congr (show upd A i o j = A j by simp [upd, e])]; simp [upd, e]
theorem cut_rw_ne {j : Int} (e : j ≠ i) : Rw (upd A i o) j = Rw A j := Rw_congr (by simp [upd, e])
theorem cut_ht (ho : ¬ o.lv) (hn : NoRow A i) : ∀ {k : Nat} {j : Int}, j ≠ i → Ht A k j → Ht (upd A i o) k j
  | 0, _, _, h => h.elim
  | k + 1, j, hj, h => ⟨(cut_tr ho).2 ⟨h.1, hj⟩, fun r hr hd => by
      rw [cut_rw_ne hj] at hr
      exact cut_ht ho hn (hn j r h.1 hr) (h.2 r hr hd)⟩
theorem cut_flat (ho : ¬ o.lv) (hn : NoRow A i) : ∀ {k : Nat} {j : Int}, j ≠ i → Ht A k j → flatE (upd A i o) k j = flatE A k j
  | 0, _, _, h => h.elim
  | k + 1, j, hj, h => by
    rw [flatE_s, flatE_s, cut_rw_ne hj]
    refine flatMap_congr' fun r hr => ?_
    unfold rowE
    by_cases hd : r.dir = true
    · rw [if_pos hd, if_pos hd, cut_flat ho hn (hn j r h.1 hr) (h.2 r hr hd)]
    · rw [if_neg hd, if_neg hd]
theorem cut_ts (ho : ¬ o.lv) (hn : NoRow A i) (ts : TreS A) : TreS (upd A i o) := by
  refine .mk' fun j hj => ?_
  obtain ⟨hj, hne⟩ := (cut_tr ho).1 hj
  have hr := ts.rows hj
  have hsame : ∀ x, x ≠ i → upd A i o x = A x := fun x hx => by simp [upd, hx]
  rw [cut_rw_ne hne, hsame j hne]
  refine ⟨ts.dat j hj, ⟨hr.ok, hr.srt, fun r hr1 hd => ?_, fun r hr1 hd => ?_, hr.nsl⟩, cut_ht ho hn hne (ts.ht j hj)⟩
  · have h1 := hr.fil r hr1 hd
    unfold isBl at h1 ⊢
    rw [hsame _ (hn j r hj hr1)]; exact h1
  · have h1 := hr.dir r hr1 hd
    unfold isTr at h1 ⊢
    rw [hsame _ (hn j r hj hr1)]; exact h1
theorem cut_cnt {R : Int → List Line} {x : Int} (h0 : 1 ≤ i) (h1 : i ≤ 48) : cntAll R x = cntAll (upd R i []) x + cntR (R i) x := by
  have h := cntAll_upd (R := upd R i []) (i := i) (x := x) (rs := R i) h0 h1 (by simp [upd])
  have : upd (upd R i []) i (R i) = R := by
    funext j
    by_cases e : j = i
    · subst e; simp [upd]
    · simp [upd, e]
  rw [this] at h; exact h
end
section
variable {n : Nat} {t : Trees} {s : Store} {d : Dev} {A : Int → Ob} {root : Int}
theorem tdrop_ok (hn : 100000 ≤ n) (h : LT t s d A root) (hd : d.at_.length < 700000) (i : Int) :
    Ok (m276 n t s d i) (fun r => (r = (6, t, s) ∧ ¬ (1 ≤ i ∧ i ≤ 48 ∧ (A i).lv)) ∨ (r = (7, t, s) ∧ (1 ≤ i ∧ i ≤ 48 ∧ (A i).lv) ∧ ¬ NoRow A i) ∨
      (r.1 = 0 ∧ (1 ≤ i ∧ i ≤ 48 ∧ (A i).lv) ∧ NoRow A i ∧ LT r.2.1 r.2.2 d (upd A i (drp (A i))) root)) := by
  unfold m276
  refine Ok_cl1 (h.tlive i) ?_
  by_cases hl : 1 ≤ i ∧ i ≤ 48 ∧ (A i).lv
  · rw [decide_eq_true hl]
    refine Ok_iteN (fun e => nomatch e) (fun _ => Ok_ck (by omega) (by omega) ?_)
    have hct := h.tr.ct i (by omega) hl.2.1
    refine Ok_ite (fun hc => Ok.some' (.inr (.inl ⟨rfl, hl, fun hno => ?_⟩))) (fun hc => Ok_ck (by omega) (by omega) ?_)
    · rw [hct, cntAll_zero.2 hno] at hc; exact absurd hc (by decide)
    · have hno : NoRow A i := cntAll_zero.1 (by omega)
      have hl1 : Ok (cond (decide ((t.kind i) = 2)) (ob3 (m194 n s d i) fun c2 l2 c3 => some l2) (some ([] : List UInt8))) (fun x => x = (Rw A i).flatMap encL) := by
        refine Ok_ite (fun hk => ?_) (fun hk => Ok.some' ?_)
        · exact Ok_cl3 (gtree hn h ((kindOf_2 h hl.1 hl.2.1).1 hk)).1 (Ok.some' rfl)
        · rw [Rw_no (fun e => hk ((kindOf_2 h hl.1 hl.2.1).2 e))]; rfl
      refine Ok_ob1 (Ok.mono hl1 (fun l1 hl1 => ?_))
      subst hl1
      refine Ok_ob2 (Ok.mono (drop_ok hn h.gd.toWf h.st hl.1 hl.2.1 hl.2.2) (fun r hr => ?_))
      obtain ⟨r1, r2⟩ := hr
      obtain ⟨c, s'⟩ := r
      simp only at r1 r2
      subst r1
      refine Ok_ite (fun e => absurd rfl e) (fun _ => ?_)
      have hdat : ((Rw A i).flatMap encL).length ≤ 1000 := by
        by_cases ht : isTr A i
        · have := (gtree hn h ht).2.2.1; omega
        · rw [Rw_no ht]; simp
      have hrok : ∀ r, r ∈ Rw A i → r.Ok := by
        intro r hr
        by_cases ht : isTr A i
        · exact h.ts.ok i r ht hr
        · rw [Rw_no ht] at hr; cases hr
      have hcl : ∀ j, (Rw A j).length ≤ 180 := fun j => h.ts.rowsOf.len h.st.dlen j
      refine Ok_cl1 (tally_ok hn hrok hdat (.inr rfl) (fun x x0 x1 => by
        rw [h.tr.ct x (by omega) x1]
        have := cntAll_le (R := Rw A) hcl x
        omega)) (Ok_ck (by omega) (by omega) (Ok_nm (Ok.some' (.inr (.inr ⟨rfl, hl, hno, ?_⟩)))))
      have hdl := drp_lv hl.2.2
      have hnf := nfr_le (upd A i (drp (A i)))
      refine ⟨h.gd, r2, ⟨fun j j0 j1 => ?_, fun j j0 j1 => ?_⟩, cut_ts hdl hno h.ts, fun j hj => ?_, by omega⟩
      · show upI t.kind i 0 j = _
        unfold upI kindOf upd
        by_cases e : j = i
        · subst e; rw [if_pos rfl]; simp only [if_true]; rw [if_neg (fun e => hdl e.2.2)]
        · rw [if_neg e]; simp only [if_neg e]; exact h.tr.kd j j0 j1
      · show t.count j + -1 * ((cntR (Rw A i) j : Nat) : Int) = _
        rw [h.tr.ct j j0 j1, cut_rw hdl, cut_cnt (R := Rw A) (i := i) (x := j) hl.1 hl.2.1]
        omega
      · obtain ⟨hj, hne⟩ := (cut_tr hdl).1 hj
        rw [cut_flat hdl hno hne (h.ts.ht j hj)]; exact h.len j hj
  · rw [decide_eq_false hl]
    exact Ok_iteN (fun _ => Ok.some' (.inl ⟨rfl, hl⟩)) (fun e => nomatch e)
end
end Go.Proofs.Qxb6500350aGreat
