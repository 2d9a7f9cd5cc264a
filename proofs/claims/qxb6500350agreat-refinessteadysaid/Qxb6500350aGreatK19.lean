/- PLAIN LAW: THE STATE OF THE TREE LAYER; REBUILD. -/
import Derived.Test.Qxb6500350aGreatK18
import Derived.Test.Qxb6500350aGreatT167
set_option linter.unusedVariables false
set_option linter.unusedSimpArgs false
set_option maxHeartbeats 1000000
namespace Go.Proofs.Qxb6500350aGreat
open Go.Eng Go
/-- a live tree -/
abbrev Ob.tree (o : Ob) : Prop := o.lv ∧ o.kind = 2
/-- how many rows of all trees name i -/
def cntAll (R : Int → List Line) (i : Int) : Nat := (ids.map fun j => cntR (R j) i).sum
/-- R j: the rows of the live tree j, none for all else -/
structure RowsOf (A : Int → Ob) (R : Int → List Line) : Prop where
  tr : ∀ j, 1 ≤ j → j ≤ 48 → (A j).tree → (A j).data = (R j).flatMap encL ∧ ∀ r, r ∈ R j → r.Ok
  no : ∀ j, ¬ (1 ≤ j ∧ j ≤ 48 ∧ (A j).tree) → R j = []
def kindOf (A : Int → Ob) (i : Int) : Int := if 1 ≤ i ∧ i ≤ 48 ∧ (A i).lv then (A i).kind else 0
structure Tre (t : Trees) (A : Int → Ob) (R : Int → List Line) : Prop where
  kd : ∀ i, 0 ≤ i → i ≤ 48 → t.kind i = kindOf A i
  ct : ∀ i, 0 ≤ i → i ≤ 48 → t.count i = cntAll R i
def lowR (R : Int → List Line) (c : Int) : Int → List Line := fun j => if j < c then R j else []
theorem sum_one {l : List Int} {c : Int} {f g : Int → Nat} {v : Nat} (hc : f c = g c + v) (h : ∀ j, j ≠ c → f j = g j) : l.Nodup → c ∈ l → (l.map f).sum = (l.map g).sum + v := by
  induction l with
  | nil => intro _ h; cases h
  | cons a r ih =>
    intro hn hm
    obtain ⟨h1, h2⟩ := List.nodup_cons.1 hn
    rcases List.mem_cons.1 hm with rfl | hm
    · have : r.map f = r.map g := List.map_congr_left (fun x hx => h x (fun e => h1 (e ▸ hx)))
      simp only [List.map_cons, List.sum_cons, this, hc]; omega
    · have hne : a ≠ c := fun e => h1 (e ▸ hm)
      have := ih h2 hm
      simp only [List.map_cons, List.sum_cons, h a hne]; omega
theorem cntAll_low {R : Int → List Line} {c i : Int} (h0 : 1 ≤ c) (h1 : c ≤ 48) : cntAll (lowR R (c + 1)) i = cntAll (lowR R c) i + cntR (R c) i := by
  unfold cntAll
  refine sum_one (c := c) ?_ (fun j hj => ?_) ids_nodup (mem_ids.2 ⟨h0, h1⟩)
  · unfold lowR
    rw [if_pos (by omega), if_neg (by omega)]
    simp [cntR]
  · unfold lowR
    by_cases h : j < c
    · rw [if_pos (by omega), if_pos h]
    · rw [if_neg (by omega), if_neg h]
theorem RowsOf.len {A : Int → Ob} {R : Int → List Line} (h : RowsOf A R) (hl : ∀ j, 1 ≤ j → j ≤ 48 → (A j).data.length ≤ 180) (j : Int) : (R j).length ≤ 180 := by
  by_cases hj : 1 ≤ j ∧ j ≤ 48 ∧ (A j).tree
  · have := (h.tr j hj.1 hj.2.1 hj.2.2).1
    have h2 := rows_len (R j)
    have h3 := hl j hj.1 hj.2.1
    rw [this] at h3; omega
  · rw [h.no j hj]; simp
theorem cntAll_le {R : Int → List Line} {b : Nat} (h : ∀ j, (R j).length ≤ b) (i : Int) : cntAll R i ≤ 48 * b := by
  have key : ∀ l : List Int, (l.map fun j => cntR (R j) i).sum ≤ l.length * b := by
    intro l
    induction l with
    | nil => simp
    | cons a r ih =>
      have h1 := cntR_le (R a) i
      have h2 := h a
      simp only [List.map_cons, List.sum_cons, List.length_cons, Nat.succ_mul]
      omega
  have := key ids
  rw [ids_len] at this
  exact this
end Go.Proofs.Qxb6500350aGreat
