/- The law's own small functions: stamps. -/
import Derived.Test.Qxb6500351aGreatRp5
set_option linter.unusedVariables false
set_option linter.unusedSimpArgs false
namespace Go.Proofs.Qxb6500351aGreat
open Go.Eng
def markQ (j i : Nat) : Nat := if i % 4 = 1 then j / 256 else if i % 4 = 2 then j / 65536 else if i % 4 = 3 then j / 16777216 else j
def mark (j i : Nat) : Int := ((markQ j i % 256 ^^^ 165 : Nat) : Int)
theorem tdN {n d : Nat} (h : n < 9223372036854775808) : IntKind.i64.wrap ((n : Int).tdiv (d : Int)) = ((n / d : Nat) : Int) := by
  have h1 : n / d ≤ n := Nat.div_le_self _ _
  have h2 : ((n : Int) / (d : Int)) = ((n / d : Nat) : Int) := (Int.natCast_ediv n d).symm
  rw [td (by omega), h2]
  generalize n / d = q at h1
  exact w64 (by omega)
theorem mark_eq {j i q : Nat} (h : markQ j i = q) : ((((q : Int) % 256 % 256).toNat ^^^ (165 : Int).toNat : Nat) : Int) = mark j i := by
  have e : ((q : Int) % 256 % 256).toNat = q % 256 := by omega
  unfold mark; rw [h, e]; rfl
theorem mark_rng (j i : Nat) : 0 ≤ mark j i ∧ mark j i < 256 := by
  unfold mark
  have := xor_lt8 (Nat.mod_lt (markQ j i) (by decide : 256 > 0)) (by decide : 165 < 256)
  omega
/-- a list of numbers, maybe nil -/
def Inl (v : Value) (l : List Int) (g : List Chunk) : Prop := l.length ≤ 1073741824 ∧ ((v = .slice none 0 0 ∧ l = [] ∧ g = []) ∨ ∃ b, v = inV b l ∧ g = inG b l 3)
theorem Inl.slice {v : Value} {l : List Int} {g : List Chunk} (h : Inl v l g) : ∃ p, v = .slice p l.length l.length := by
  rcases h with ⟨_, ⟨rfl, rfl, rfl⟩ | ⟨b, rfl, rfl⟩⟩
  · exact ⟨_, rfl⟩
  · exact ⟨_, rfl⟩
theorem Inl.pos {v : Value} {l : List Int} {g : List Chunk} (h : Inl v l g) (hl : 0 < l.length) : ∃ b, v = inV b l ∧ g = inG b l 3 := by
  rcases h with ⟨_, ⟨rfl, rfl, rfl⟩ | h⟩
  · exact absurd hl (by simp)
  · exact h
theorem getD_at {l : List Int} {k : Nat} (hk : k < l.length) : l.getD k 0 = l[k] := by rw [List.getD_eq_getElem?_getD, List.getElem?_eq_getElem hk]; rfl
theorem mem_at {l : List Int} {k : Nat} {x : Int} (hk : k < l.length) (h : l.getD k 0 = x) : x ∈ l := by rw [← h, getD_at hk]; exact List.getElem_mem hk
theorem copyI (l : List Int) : ((iV (List.replicate l.length 0)).toArray.toList.take 0 ++ ((iV l).toArray.extract 0 (0 + l.length)).toList ++ (iV (List.replicate l.length 0)).toArray.toList.drop (0 + l.length)).toArray = (iV l).toArray := by simp [iV, List.take_of_length_le]
theorem iV_plain (l : List Int) : ((iV l).toArray.extract 0 (0 + l.length)).toList.all plainV = true := by
  rw [List.all_eq_true]
  intro x hx
  simp only [Array.toList_extract, List.extract_eq_take_drop, iV] at hx
  have h1 := List.mem_of_mem_drop (List.mem_of_mem_take hx)
  obtain ⟨y, _, rfl⟩ := List.mem_map.1 h1
  rfl
end Go.Proofs.Qxb6500351aGreat
