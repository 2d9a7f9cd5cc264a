/- PLAIN LAW: THE COUNTS OF THE TREE LAYER. -/
import Derived.Test.Qxb6500350aGreatK16
import Derived.Test.Qxb6500350aGreatT245
set_option linter.unusedVariables false
set_option linter.unusedSimpArgs false
set_option maxHeartbeats 1000000
namespace Go.Proofs.Qxb6500350aGreat
open Go.Eng Go
/-- how many rows name i -/
def cntR (rs : List Line) (i : Int) : Nat := (rs.filter fun r => decide (r.id = i)).length
theorem cntR_le (rs : List Line) (i : Int) : cntR rs i ≤ rs.length := List.length_filter_le _ _
theorem rows_len (q : List Line) : q.length ≤ (q.flatMap encL).length := by
  induction q with
  | nil => simp
  | cons b q ih => rw [List.flatMap_cons, List.length_append, encL_len, List.length_cons]; omega
theorem tally_ok {n : Nat} {t : Trees} {rs : List Line} {v : Int} (hn : 100000 ≤ n) (h : ∀ r, r ∈ rs → r.Ok) (hl : (rs.flatMap encL).length ≤ 1000) (hv : v = 1 ∨ v = -1) (hc : ∀ i, 1 ≤ i → i ≤ 48 → -1000000 ≤ t.count i ∧ t.count i ≤ 1000000) :
    m245 n t (rs.flatMap encL) v = some { t with count := fun i => t.count i + v * cntR rs i } := by
  refine Ok.eq ?_
  unfold m245
  refine Ok_cl1 (rows_ok hn h hl) (Ok_ob2 ?_)
  have hlen := rows_len rs
  unfold m245_w1
  refine Ok_it2 (fun (j : Int) (z : Trees) => 0 ≤ j ∧ j ≤ rs.length ∧ z = { t with count := fun i => t.count i + v * cntR (rs.take j.toNat) i }) (fun (j : Int) _ => (rs.length - j).toNat) ?_ n 0 t ⟨by omega, by omega, by simp [cntR]⟩ (by show ((rs.length : Int) - 0).toNat < n; omega)
  rintro Q lp j z hQ ⟨i0, i1, rfl⟩ ih
  refine Ok_ite (fun hj => ?_) (fun hj => ?_)
  · refine Ok_ix (by omega) (by omega) (fun r hr => ?_)
    have hrm := h r (List.mem_of_getElem? hr)
    have a1 := hrm.id0
    have a2 := hrm.id1
    have hle := cntR_le (rs.take j.toNat) r.id
    have hle2 : (rs.take j.toNat).length ≤ rs.length := by rw [List.length_take]; omega
    have hcr := hc r.id a1 a2
    refine Ok_ck (by omega) (by omega) (Ok_ck (by omega) (by omega) (Ok_nm ?_))
    have hw : wi (j + 1) = j + 1 := wi_of (by omega) (by omega)
    rw [hw]
    refine ih _ _ ⟨by omega, by omega, ?_⟩ (by omega)
    rw [show (j + 1).toNat = j.toNat + 1 by omega, List.take_add_one, hr]
    congr 1
    funext i
    unfold upI
    have happ : cntR (rs.take j.toNat ++ [r]) i = cntR (rs.take j.toNat) i + if r.id = i then 1 else 0 := by
      unfold cntR
      rw [List.filter_append, List.length_append]
      by_cases e : r.id = i <;> simp [e]
    show (if i = r.id then _ else _) = t.count i + v * ((cntR (rs.take j.toNat ++ [r]) i : Nat) : Int)
    rw [happ]
    by_cases e : i = r.id
    · subst e
      rw [if_pos rfl, if_pos rfl]
      show IntKind.i64.wrap (t.count r.id + v * ((cntR (rs.take j.toNat) r.id : Nat) : Int) + v) = _
      rcases hv with rfl | rfl
      · rw [wi_of (by omega) (by omega)]; omega
      · rw [wi_of (by omega) (by omega)]; omega
    · rw [if_neg e, if_neg (fun h => e h.symm)]; rfl
  · obtain rfl : j = rs.length := by omega
    refine Ok.some' (hQ _ (Ok.some' ?_))
    rw [Int.toNat_natCast, List.take_length]
end Go.Proofs.Qxb6500350aGreat
