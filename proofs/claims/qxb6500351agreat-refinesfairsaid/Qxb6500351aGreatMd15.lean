/- THE PLAIN FUNCTIONS of the wire; its flights in memory. -/
import Derived.Test.Qxb6500351aGreatMd14
import Derived.Test.Qxb6500351aGreatEngS
set_option linter.unusedVariables false
set_option linter.unusedSimpArgs false
namespace Go.Proofs.Qxb6500351aGreat
open Go.Eng
structure Flt where
  raw : List Int
  age : Int
  fl : Bool
structure Flt.Ok (x : Flt) : Prop where
  b : Bytes x.raw
  len : x.raw.length ≤ 1000
  age : 0 ≤ x.age ∧ x.age ≤ 5
def flR (xs : List Value) (x : Flt) (g : List Chunk) : Prop := ∃ b, xs = (Fl.mk (byV b x.raw) x.age x.fl).enc.toList ∧ g = byG b x.raw 5 ∧ x.Ok
theorem flR_plain : ∀ xs a g, flR xs a g → xs.all plainV = true := by rintro xs a g ⟨b, rfl, _, _⟩; rfl
abbrev FlO (b cap : Nat) (cur : Array Value) (l : List Flt) (gd : List Chunk) : Prop := LOpen 130 3 flR b cap cur l gd
theorem Fl.l_age {b cap : Nat} {cur : Array Value} {l : List Flt} {gd : List Chunk} (h : FlO b cap cur l gd) (k : Nat) (hk : k < l.length) {o : Nat} (ho : o = 0 + k * 3 + 1) : cur[o]? = some (.int .i64 (l[k]).age) :=
  h.field k hk (by omega) (fun x g ⟨b, hb, _, _⟩ => by subst hb; rfl) o ho
theorem Fl.l_fl {b cap : Nat} {cur : Array Value} {l : List Flt} {gd : List Chunk} (h : FlO b cap cur l gd) (k : Nat) (hk : k < l.length) {o : Nat} (ho : o = 0 + k * 3 + 2) : cur[o]? = some (.bool (l[k]).fl) :=
  h.field k hk (by omega) (fun x g ⟨b, hb, _, _⟩ => by subst hb; rfl) o ho
theorem Fl.s_age {b cap : Nat} {cur : Array Value} {l : List Flt} {gd : List Chunk} (h : FlO b cap cur l gd) (k : Nat) (hk : k < l.length) {o : Nat} (ho : o = 0 + k * 3 + 1) (x : Int) (hx : 0 ≤ x ∧ x ≤ 5) :
    FlO b cap (cur.setIfInBounds o (.int .i64 x)) (l.set k { l[k] with age := x }) gd :=
  h.set k hk (by omega) (fun y g ⟨b, hb, hg, ho⟩ => by subst hb; exact ⟨b, rfl, hg, ⟨ho.b, ho.len, hx⟩⟩) o ho
theorem Fl.s_fl {b cap : Nat} {cur : Array Value} {l : List Flt} {gd : List Chunk} (h : FlO b cap cur l gd) (k : Nat) (hk : k < l.length) {o : Nat} (ho : o = 0 + k * 3 + 2) (x : Bool) :
    FlO b cap (cur.setIfInBounds o (.bool x)) (l.set k { l[k] with fl := x }) gd :=
  h.set k hk (by omega) (fun y g ⟨b, hb, hg, ho⟩ => by subst hb; exact ⟨b, rfl, hg, ⟨ho.b, ho.len, ho.age⟩⟩) o ho
theorem Fl.bnd {b cap : Nat} {cur : Array Value} {l : List Flt} {gd : List Chunk} (h : FlO b cap cur l gd) (k : Nat) (hk : k < l.length) (f : Nat) (hf : f < 3) {o : Nat} (ho : o = 0 + k * 3 + f) : o < cur.size := h.bound k hk hf o ho
/-- one flight is taken out: its bytes' row, its header, and how to lay another in its place -/
theorem Fl.cut {b cap : Nat} {cur : Array Value} {l : List Flt} {gd : List Chunk} (h : FlO b cap cur l gd) (k : Nat) (hk : k < l.length) :
    ∃ br ga gb, gd = ga ++ byG br (l[k]).raw 5 ++ gb ∧ (l[k]).Ok ∧ (∀ o, o = 0 + k * 3 → cur.extract o (o + 3) = (Fl.mk (byV br (l[k]).raw) (l[k]).age (l[k]).fl).enc ∧ o + 3 ≤ cur.size) ∧ (∀ o, o = 0 + k * 3 + 0 → cur[o]? = some (byV br (l[k]).raw)) ∧
      (∀ raw' : List Int, raw'.length = (l[k]).raw.length → Bytes raw' → FlO b cap cur (l.set k { l[k] with raw := raw' }) (ga ++ byG br raw' 5 ++ gb)) ∧
      ∃ pa x pb, cur.toList.take (l.length * 3) = pa ++ x ++ pb ∧ pa.length = k * 3 ∧ x.length = 3 ∧ Elems 3 flR pa (l.take k) ga ∧ Elems 3 flR pb (l.drop (k + 1)) gb := by
  obtain ⟨pa, x, pb, ga, g1, gb, h1, h2, h3, ⟨br, h4, h5, h6⟩, h7, h8, h9⟩ := h.ex.get k hk
  subst h4 h5
  have hs := h.size
  have hle := h.le
  have hb : (k + 1) * 3 ≤ cap * 3 := Nat.mul_le_mul_right _ (by omega)
  have hcell : ∀ j, j < 3 → cur[0 + k * 3 + j]? = (Fl.mk (byV br (l[k]).raw) (l[k]).age (l[k]).fl).enc.toList[j]? := by
    intro j hj
    have hlt : 0 + k * 3 + j < l.length * 3 := by omega
    have e1 : cur[0 + k * 3 + j]? = (cur.toList.take (l.length * 3))[0 + k * 3 + j]? := by
      rw [List.getElem?_take, if_pos hlt, Array.getElem?_toList]
    rw [e1, h1, List.append_assoc, List.getElem?_append_right (by omega), h2, List.getElem?_append_left (by rw [h3]; omega)]
    congr 1; omega
  refine ⟨br, ga, gb, h7, h6, ?_, ?_, ?_, pa, _, pb, h1, h2, h3, h8, h9⟩
  · rintro o rfl
    refine ⟨?_, by omega⟩
    apply Array.ext'
    rw [Array.toList_extract, List.extract_eq_take_drop]
    apply List.ext_getElem?
    intro j
    rw [List.getElem?_take]
    by_cases hj : j < 3
    · rw [if_pos (by omega), List.getElem?_drop, Array.getElem?_toList]
      exact hcell j hj
    · rw [if_neg (by omega), List.getElem?_eq_none (by show 3 ≤ j; omega)]
  · rintro o rfl
    exact hcell 0 (by omega)
  · intro raw' hl' hb'
    refine ⟨by rw [List.length_set]; exact h.le, h.capm, h.size, ?_⟩
    rw [List.length_set, h1]
    exact Elems.put hk h8 h3 ⟨br, by rw [show byV br (l[k]).raw = byV br raw' by show Value.slice _ _ _ = Value.slice _ _ _; rw [hl']], rfl, ⟨hb', by show raw'.length ≤ 1000; rw [hl']; exact h6.len, h6.age⟩⟩ h9
/-! the wire's functions -/
def wPut (l : List Flt) (raw : List Int) : List Flt := if 64 ≤ l.length then l else l ++ [⟨raw, 0, false⟩]
def wHas (l : List Flt) (i : Int) : Bool := decide (0 ≤ i ∧ i < l.length)
def wTick1 (x : Flt) : Flt := if x.age ≤ 4 then { x with age := x.age + 1 } else x
def wTick (l : List Flt) : List Flt := l.map wTick1
def wRem (l : List Flt) (i : Int) : List Flt := l.take i.toNat ++ l.drop (i.toNat + 1)
def wDouble (l : List Flt) (i : Int) : List Flt := if wHas l i = true ∧ l.length < 64 then l ++ (l.drop i.toNat).take 1 else l
def flipRaw (raw : List Int) (bit : Int) : List Int := raw.set (bit.toNat / 8) (((raw.getD (bit.toNat / 8) 0).toNat ^^^ 2 ^ (bit.toNat % 8) : Nat) : Int)
def wCan (l : List Flt) (i bit : Int) : Bool := match l[i.toNat]? with
  | none => false
  | some x => decide (0 ≤ i ∧ x.fl = false ∧ 0 ≤ bit ∧ bit / 8 < x.raw.length)
def wFlip (l : List Flt) (i bit : Int) : List Flt := match l[i.toNat]? with
  | none => l
  | some x => if 0 ≤ i ∧ x.fl = false ∧ 0 ≤ bit ∧ bit / 8 < x.raw.length then l.set i.toNat { x with raw := flipRaw x.raw bit, fl := true } else l
theorem flR.mk {b : Nat} {x : Flt} (h : x.Ok) : flR (Fl.mk (byV b x.raw) x.age x.fl).enc.toList x (byG b x.raw 5) := ⟨b, rfl, rfl, h⟩
theorem Fl.okAt {b cap : Nat} {cur : Array Value} {l : List Flt} {gd : List Chunk} (h : FlO b cap cur l gd) (k : Nat) (hk : k < l.length) : (l[k]).Ok := by
  obtain ⟨x, ga, g1, gb, h1, ⟨_, _, _, h2⟩, _⟩ := h.at k hk
  exact h2
theorem step_at {α : Type} (f : α → α) (l : List α) (k : Nat) (h : k < l.length) (h' : k < ((l.take k).map f ++ l.drop k).length) : ((l.take k).map f ++ l.drop k)[k] = l[k] := by
  have e : ((l.take k).map f).length = k := by simp; omega
  rw [List.getElem_append_right (by omega)]
  simp only [e, Nat.sub_self, List.getElem_drop, Nat.add_zero]
theorem step_set {α : Type} (f : α → α) (l : List α) (k : Nat) (h : k < l.length) : ((l.take k).map f ++ l.drop k).set k (f l[k]) = (l.take (k + 1)).map f ++ l.drop (k + 1) := by
  have e : ((l.take k).map f).length = k := by simp; omega
  have q := map_take f l [] k h
  rw [List.nil_append, List.nil_append] at q
  rw [List.set_append_right (h := by omega), e, Nat.sub_self, List.drop_eq_getElem_cons h, List.set_cons_zero, ← q, List.append_assoc]
  rfl
theorem step_same {α : Type} (f : α → α) (l : List α) (k : Nat) (h : k < l.length) (hf : f l[k] = l[k]) : (l.take k).map f ++ l.drop k = (l.take (k + 1)).map f ++ l.drop (k + 1) := by
  have e : ((l.take k).map f).length = k := by simp; omega
  rw [← step_set f l k h, hf, List.set_append_right (h := by omega), e, Nat.sub_self, List.drop_eq_getElem_cons h, List.set_cons_zero]
theorem lstN_of_open {b cap n : Nat} {cur : Array Value} {l : List Flt} {gd : List Chunk} (h : FlO b cap cur l gd) (hl : l.length = n) : LstN 130 3 flR (.slice (some ⟨b, 0, none⟩) n cap) l [(b, .cells cur 130 (0, 0))] gd := by
  subst hl; exact .of (LOpen.shut h)
theorem set_at {cs : Array Value} {o o' : Nat} {v : Value} (h : o = o') : cs.setIfInBounds o v = cs.setIfInBounds o' v := by rw [h]
end Go.Proofs.Qxb6500351aGreat
