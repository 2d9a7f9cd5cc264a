/- PLAIN LAW: SMALL FUNCTIONS OF THE TREE LAYER. -/
import Derived.Test.Qxb6500350aGreatK17
import Derived.Test.Qxb6500350aGreatT219
import Derived.Test.Qxb6500350aGreatT305
import Derived.Test.Qxb6500350aGreatT262
import Derived.Test.Qxb6500350aGreatT314
import Derived.Test.Qxb6500350aGreatT315
import Derived.Test.Qxb6500350aGreatT203
set_option linter.unusedVariables false
set_option linter.unusedSimpArgs false
set_option maxHeartbeats 1000000
namespace Go.Proofs.Qxb6500350aGreat
open Go.Eng Go
theorem tlive_ok {n : Nat} {t : Trees} (i : Int) : m277 n t i = some (decide (1 ≤ i ∧ i ≤ 48 ∧ t.kind i ≠ 0)) := by
  refine Ok.eq ?_
  unfold m277
  refine Ok_ob1 (Ok_ite (fun h0 => Ok_ite (fun h1 => Ok_ck (by omega) (by omega) (Ok.some' (Ok.some' ?_))) (fun h1 => Ok.some' (Ok.some' ?_))) (fun h0 => Ok.some' (Ok.some' ?_)))
  · by_cases h2 : t.kind i = 0
    · rw [decide_eq_false (by intro h; exact h h2), decide_eq_false (fun g => g.2.2 h2)]
    · rw [decide_eq_true h2, decide_eq_true ⟨h0, h1, h2⟩]
  · exact (decide_eq_false (fun g => h1 g.2.1)).symm
  · exact (decide_eq_false (fun g => h0 g.1)).symm
theorem isTree_ok {n : Nat} {t : Trees} {i : Int} (h0 : 1 ≤ i) (h1 : i ≤ 48) (h2 : t.kind i = 2) : m305 n t i = some 0 := by
  refine Ok.eq ?_
  unfold m305
  refine Ok_cl1 (tlive_ok i) ?_
  rw [decide_eq_true ⟨h0, h1, by omega⟩]
  exact Ok_iteN (fun h => nomatch h) (fun _ => Ok_ck (by omega) (by omega) (Ok_ite (fun h => absurd h2 h) (fun _ => Ok.some' rfl)))
/-- the key of a row -/
def keyL (r : Line) : Str := if r.dir then r.name ++ [47] else r.name
theorem key_ok {n : Nat} {r : Line} (h : r.name.length ≤ 1000) : m262 n r = some (keyL r) := by
  refine Ok.eq ?_
  unfold m262 keyL
  refine Ok_cond (fun hd => ?_) (fun hd => ?_)
  · rw [hd]
    exact Ok_sAdd (by simp; omega) (Ok.some' rfl)
  · rw [hd]; exact Ok.some' rfl
theorem hasPrefix_ok {n : Nat} {s p : Str} : m203 n s p = some (p.isPrefixOf s) := by
  refine Ok.eq ?_
  unfold m203
  refine Ok_ob1 (Ok_ite (fun h => Ok_sSl (by omega) (by omega) h (Ok.some' (Ok.some' ?_))) (fun h => Ok.some' (Ok.some' ?_)))
  · rw [Bool.eq_iff_iff, decide_eq_true_iff, List.isPrefixOf_iff_prefix, List.prefix_iff_eq_take]
    simp only [Int.toNat_natCast, Int.toNat_zero, List.drop_zero]
    exact eq_comm
  · rw [eq_comm, Bool.eq_false_iff]
    intro hp
    have := (List.isPrefixOf_iff_prefix.1 hp).length_le
    omega
theorem appendRow_ok {n : Nat} {buf : List UInt8} {hd id : Int} {name : Str} (hn : 100000 ≤ n) (hb : buf.length ≤ 10000) (hl : name.length ≤ 1000) : m315 n buf hd id name = some (buf ++ (u8 hd :: u8 id :: u8 name.length :: name)) := by
  refine Ok.eq ?_
  unfold m315
  refine Ok_apds (by omega) (by simp) (Ok_ob2 ?_)
  unfold m315_w1
  refine Ok_it2 (fun (l : List UInt8) (j : Int) => 0 ≤ j ∧ j ≤ name.length ∧ l = buf ++ (u8 hd :: u8 id :: u8 name.length :: name.take j.toNat)) (fun _ (j : Int) => (name.length - j).toNat) ?_ n _ 0 ⟨by omega, by omega, by simp⟩ (by show ((name.length : Int) - 0).toNat < n; omega)
  rintro Q lp l j hQ ⟨i0, i1, rfl⟩ ih
  refine Ok_ite (fun hj => ?_) (fun hj => ?_)
  · refine Ok_sIx (by omega) (by omega) (fun x hx => Ok_apd (by simp; omega) ?_)
    simp (disch := omega) only [wi_of]
    refine ih _ _ ⟨by omega, by omega, ?_⟩ (by omega)
    rw [show (j + 1).toNat = j.toNat + 1 by omega, List.take_add_one, hx]
    simp
  · obtain rfl : j = name.length := by omega
    refine Ok.some' (hQ _ (Ok.some' ?_))
    simp
/-- the place of the first slash at or behind k -/
theorem slashFrom_ok {n : Nat} {p : Str} {k : Int} (hn : 100000 ≤ n) (h0 : 0 ≤ k) (hl : p.length ≤ 1000) : Ok (m314 n p k) (fun r => (r = -1 ∧ ∀ j : Nat, k ≤ j → j < p.length → p[j]? ≠ some 47) ∨ (k ≤ r ∧ r < p.length ∧ p[r.toNat]? = some 47 ∧ ∀ j : Nat, k ≤ j → (j : Int) < r → p[j]? ≠ some 47)) := by
  unfold m314
  refine Ok_flow ?_
  unfold m314_w1
  refine Ok_it1 (fun (j : Int) => k ≤ j ∧ ∀ i : Nat, k ≤ i → (i : Int) < j → p[i]? ≠ some 47) (fun (j : Int) => (p.length - j).toNat) ?_ n k ⟨by omega, fun i h1 h2 => by omega⟩ (by show ((p.length : Int) - k).toNat < n; omega)
  rintro Q lp j hQ ⟨i0, i1⟩ ih
  refine Ok_ite (fun hj => ?_) (fun hj => ?_)
  · refine Ok_sIx (by omega) (by omega) (fun x hx => ?_)
    refine Ok_ite (fun hx47 => ?_) (fun hx47 => ?_)
    · have : x = 47 := UInt8.toNat_inj.1 (by show x.toNat = 47; omega)
      subst this
      exact Ok_bs (Ok.some' (hQ _ (Ok.some' (.inr ⟨i0, hj, hx, i1⟩))))
    · simp (disch := omega) only [wi_of]
      refine ih _ ⟨by omega, fun i h1 h2 h3 => ?_⟩ (by omega)
      rcases Classical.em ((i : Int) = j) with e | e
      · have : i = j.toNat := by omega
        subst this
        rw [hx] at h3
        exact hx47 (by rw [Option.some.inj h3]; rfl)
      · exact i1 i h1 (by omega) h3
  · exact Ok.some' (hQ _ (Ok.some' (.inl ⟨rfl, fun i h1 h2 => i1 i h1 (by omega)⟩)))
end Go.Proofs.Qxb6500350aGreat
