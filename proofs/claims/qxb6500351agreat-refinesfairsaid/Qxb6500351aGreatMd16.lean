/- Windows of a row of cells; the wire's calls. -/
import Derived.Test.Qxb6500351aGreatMd15
set_option linter.unusedVariables false
set_option linter.unusedSimpArgs false
namespace Go.Proofs.Qxb6500351aGreat
open Go.Eng
theorem win_pre {cur : Array Value} {n i o m : Nat} {pa r : List Value} (h : cur.toList.take (n * 3) = pa ++ r) (hp : pa.length = i * 3) (ho : o = 0) (hm : m = i) : (cur.extract o (o + m * 3)).toList = pa := by
  subst ho hm
  have h1 := congrArg (List.take (m * 3)) h
  rw [List.take_take, List.take_append_of_le_length (by omega), List.take_of_length_le (l := pa) (by omega)] at h1
  have hle : m * 3 ≤ n * 3 := by
    have h2 := congrArg List.length h
    simp only [List.length_append, List.length_take] at h2
    omega
  rw [Nat.min_eq_left hle] at h1
  rw [Array.toList_extract, List.extract_eq_take_drop]
  simpa using h1
theorem win_suf {cur : Array Value} {n i o m : Nat} {pa r : List Value} (h : cur.toList.take (n * 3) = pa ++ r) (hp : pa.length = i * 3) (hr : r.length = m * 3) (hn : n = i + m) (ho : m = 0 ∨ o = i * 3) : (cur.extract o (o + m * 3)).toList = r := by
  rcases ho with h0 | ho
  · subst h0
    rw [List.length_eq_zero_iff.1 (by omega : r.length = 0)]
    rw [Array.toList_extract, List.extract_eq_take_drop]; simp
  · subst ho
    have h1 := congrArg (List.drop (i * 3)) h
    rw [List.drop_append_of_le_length (by omega), List.drop_of_length_le (l := pa) (by omega), List.nil_append, List.drop_take] at h1
    have h2 := congrArg List.length h
    simp only [List.length_append, List.length_take] at h2
    rw [Array.toList_extract, List.extract_eq_take_drop, ← h1]
    congr 1; omega
/-- one flight leaves the wire -/
theorem Fl.gone {b cap : Nat} {cur : Array Value} {l : List Flt} {gd : List Chunk} (h : FlO b cap cur l gd) (k : Nat) (hk : k < l.length) :
    ∃ br ga gb pa x pb, gd = ga ++ byG br (l[k]).raw 5 ++ gb ∧ (l[k]).Ok ∧ (∀ o, o = 0 + k * 3 → cur.extract o (o + 3) = (Fl.mk (byV br (l[k]).raw) (l[k]).age (l[k]).fl).enc ∧ o + 3 ≤ cur.size) ∧
      Vec 130 3 (.slice (some ⟨b, 0, none⟩) l.length cap) l.length (pa ++ x ++ pb) [(b, .cells cur 130 (0, 0))] ∧ pa.length = k * 3 ∧ x.length = 3 ∧ (pa ++ x ++ pb).all plainV = true ∧
      (∀ v' gv', Vec 130 3 v' (l.length - 1) (pa ++ pb) gv' → LstN 130 3 flR v' (wRem l k) gv' (ga ++ gb)) := by
  obtain ⟨br, ga, gb, h1, h2, h3, h4, h5, pa, x, pb, h6, h7, h8, h9, h10⟩ := Fl.cut h k hk
  have hs := h.size
  have hle := h.le
  refine ⟨br, ga, gb, pa, x, pb, h1, h2, h3, ⟨?_, .inr ⟨b, cap, cur, rfl, rfl, h.le, h.capm, h.size, h6⟩⟩, h7, h8, ?_, ?_⟩
  · have e0 : cur.toList.length = cur.size := Array.length_toList
    rw [← h6, List.length_take, e0]; omega
  · rw [← h6]; exact Elems.plain flR_plain h.ex
  · intro v' gv' hv
    have e1 : (wRem l k).length = l.length - 1 := by unfold wRem; simp; omega
    exact ⟨pa ++ pb, by rw [e1]; exact hv, by unfold wRem; rw [Int.toNat_natCast]; exact h9.app h10⟩
theorem o_join3 {c : Cx} {all : Array Oper} {l : List Oper} {T L : Env} {R : SH} {Q : Env → SH → Prop} {g ga g1 gb : List Chunk} (hg : g = ga ++ g1 ++ gb) (h : OkO c all l T L (g :: R) Q) : OkO c all l T L (g1 :: (ga ++ gb) :: R) Q := by
  refine o_perm ?_ h
  subst hg
  simp only [List.flatten_cons, ← List.append_assoc]
  refine List.Perm.append_right _ (List.Perm.append_right _ ?_)
  exact List.perm_append_comm
theorem td8 {n : Nat} (h : n < 9223372036854775808) : IntKind.i64.wrap ((n : Int).tdiv 8) = ((n / 8 : Nat) : Int) := by
  rw [td (by omega)]; exact w64 (by omega)
theorem tm8 {n : Nat} : (n : Int).tmod 8 = ((n % 8 : Nat) : Int) := by rw [tm (by omega)]; omega
theorem flip_bit {x : Int} {n : Nat} (h : 0 ≤ x ∧ x < 256) : bXor .u8 x (((2 ^ (n % 8) : Nat) : Int)) = ((x.toNat ^^^ 2 ^ (n % 8) : Nat) : Int) := by
  have h1 : 2 ^ (n % 8) ≤ 2 ^ 7 := Nat.pow_le_pow_right (by decide) (by omega)
  rw [bXor_nat (f8 h) (f8 ⟨Int.natCast_nonneg _, by omega⟩), Int.toNat_natCast]
theorem xor_lt8 {x y : Nat} (h : x < 256) (h' : y < 256) : x ^^^ y < 256 := Nat.xor_lt_two_pow (n := 8) h h'
theorem flipRaw_len (raw : List Int) (bit : Int) : (flipRaw raw bit).length = raw.length := by unfold flipRaw; simp
theorem flipRaw_b {raw : List Int} {bit : Int} (h : Bytes raw) : Bytes (flipRaw raw bit) := by
  intro x hx
  unfold flipRaw at hx
  rcases List.mem_or_eq_of_mem_set hx with h1 | h1
  · exact h x h1
  · subst h1
    have h2 : (raw.getD (bit.toNat / 8) 0).toNat < 256 := by
      rw [List.getD_eq_getElem?_getD]
      cases h3 : raw[bit.toNat / 8]? with
      | none => simp
      | some y => have := h y (List.mem_of_getElem? h3); simp only [Option.getD_some]; omega
    have h4 : 2 ^ (bit.toNat % 8) ≤ 2 ^ 7 := Nat.pow_le_pow_right (by decide) (by omega)
    have := xor_lt8 h2 (by omega : 2 ^ (bit.toNat % 8) < 256)
    omega
theorem wFlip_no {l : List Flt} {i bit : Int} (h : ∀ x, l[i.toNat]? = some x → ¬ (0 ≤ i ∧ x.fl = false ∧ 0 ≤ bit ∧ bit / 8 < x.raw.length)) : wCan l i bit = false ∧ wFlip l i bit = l := by
  unfold wCan wFlip
  cases h1 : l[i.toNat]? with
  | none => exact ⟨rfl, rfl⟩
  | some x => exact ⟨decide_eq_false (h x h1), if_neg (h x h1)⟩
theorem wFlip_yes {l : List Flt} {k n : Nat} (hk : k < l.length) (hf : l[k].fl = false) (hn : n / 8 < l[k].raw.length) : wCan l k n = true ∧ wFlip l k n = (l.set k { l[k] with raw := flipRaw l[k].raw n }).set k { (l.set k { l[k] with raw := flipRaw l[k].raw n })[k]'(by rw [List.length_set]; exact hk) with fl := true } := by
  have h : 0 ≤ (k : Int) ∧ l[k].fl = false ∧ 0 ≤ (n : Int) ∧ (n : Int) / 8 < l[k].raw.length := ⟨by omega, hf, by omega, by omega⟩
  unfold wCan wFlip
  rw [Int.toNat_natCast, List.getElem?_eq_getElem hk]
  dsimp only
  refine ⟨decide_eq_true h, ?_⟩
  rw [if_pos h, List.set_set]
  simp only [List.getElem_set_self]
def wTake (l : List Flt) (i : Int) : Option (List Int) := match l[i.toNat]? with
  | none => none
  | some x => if 0 ≤ i ∧ x.age ≤ 4 then some x.raw else none
def wRest (l : List Flt) (i : Int) : List Flt := if wHas l i = true then wRem l i else l
end Go.Proofs.Qxb6500351aGreat
