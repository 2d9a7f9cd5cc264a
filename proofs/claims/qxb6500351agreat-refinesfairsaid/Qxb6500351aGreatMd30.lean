/- Reading the pools once more: for Untouched. -/
import Derived.Test.Qxb6500351aGreatMd29
import Derived.Test.Qxb6500351aGreatW66
set_option linter.unusedVariables false
set_option linter.unusedSimpArgs false
namespace Go.Proofs.Qxb6500351aGreat
open Go.Eng
theorem mark_b (j i : Nat) : 0 ≤ mark j i ∧ mark j i < 256 := by
  unfold mark
  have : markQ j i % 256 ^^^ 165 < 2 ^ 8 := Nat.xor_lt_two_pow (by omega) (by decide)
  omega
theorem tok_bytes (j : Nat) : Bytes (tok j) := fun y hy => by
  unfold tok at hy
  simp only [List.mem_cons, List.not_mem_nil, or_false] at hy
  rcases hy with rfl | rfl | rfl | rfl <;> exact mark_b _ _
theorem po_row {b cap : Nat} {cur : Array Value} {l : List (Nat × Nat)} {gd : List Chunk} (h : LOpen 51 1 outR b cap cur l gd) (k : Nat) (hk : k < l.length) (ho : ∀ j (h : j < l.length), l[j].1 = j) :
    ∃ bf bt n ga gb, (∀ o, o = 0 + k * 1 → cur[o]? = some (.slice (some ⟨bf, 0, none⟩) n n)) ∧ n ≤ maxLen ∧ gd = ga ++ byG bt (tok k) 5 ++ gb ∧ (bf, Obj.cells (List.replicate n (byV bt (tok k))).toArray 81 (0, 0)) ∈ gd := by
  obtain ⟨x, ga, g1, gb, h1, ⟨bf, bt, h2, h3, h4⟩, h6, h7⟩ := h.at k hk
  have e := ho k hk
  rw [e] at h4
  subst h2
  refine ⟨bf, bt, l[k].2, ga ++ [(bf, .cells (List.replicate l[k].2 (byV bt (tok k))).toArray 81 (0, 0))], gb, fun o ho => h7 0 o (by omega) (by omega), h3, ?_, ?_⟩
  · rw [h6, h4]; simp
  · rw [h6, h4]; simp
theorem pi_row {b cap : Nat} {cur : Array Value} {l : List (List Int)} {gd : List Chunk} (h : LOpen 46 1 inlR b cap cur l gd) (k : Nat) (hk : k < l.length) (ho : ∀ j (h : j < l.length), l[j] = List.replicate l[j].length (-1 - (j : Int))) :
    ∃ bi n, (∀ o, o = 0 + k * 1 → cur[o]? = some (inV bi (List.replicate n (-1 - (k : Int))))) ∧ n ≤ 1073741824 ∧ (bi, Obj.cells (iV (List.replicate n (-1 - (k : Int)))).toArray 3 (0, 0)) ∈ gd := by
  obtain ⟨x, ga, g1, gb, h1, ⟨bi, h2, h3, h4⟩, h6, h7⟩ := h.at k hk
  have e := ho k hk
  subst h2
  rw [e] at h7 h3
  refine ⟨bi, l[k].length, fun o ho => h7 0 o (by omega) (by omega), h4, ?_⟩
  rw [h6, h3]; simp
theorem pm_row {b cap : Nat} {cur : Array Value} {l : List (List Int)} {gd : List Chunk} (h : LOpen 81 1 rowR b cap cur l gd) (k : Nat) (hk : k < l.length) (hs : l[k] = stp k l[k].length) :
    ∃ bm n, (∀ o, o = 0 + k * 1 → cur[o]? = some (byV bm (stp k n))) ∧ n ≤ 1000 ∧ (bm, Obj.cells (bV (stp k n)).toArray 5 (0, 0)) ∈ gd ∧ Bytes (stp k n) := by
  obtain ⟨br, ga, gb, h1, h2, h3, h4⟩ := h.row k hk
  rw [hs] at h1 h2 h3
  refine ⟨br, l[k].length, h2, h4, by rw [h1]; simp, h3⟩
theorem stp_get (j n i : Nat) (h : i < n) : (stp j n).getD i 0 = mark j i := by
  rw [List.getD_eq_getElem?_getD]; simp [stp, h]
theorem tok_len1 (j : Nat) : (tok j).length ≤ 1000 := by show 4 ≤ 1000; decide
theorem rep_getI (n : Nat) (y : Int) (i : Nat) (h : i < n) : (List.replicate n y).getD i 0 = y := by
  rw [List.getD_eq_getElem?_getD]; simp [h]
theorem rep_getV (n : Nat) (y : Value) {i k : Nat} (h : i < n) (hk : k = 0 + i * 1) : (List.replicate n y).toArray[k]? = some y := by
  obtain rfl : k = i := by omega
  simp [h]
end Go.Proofs.Qxb6500351aGreat
