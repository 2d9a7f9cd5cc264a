/- THE ENGINE, part 13: lists of structs, read and written field by field; lists that may be nil; grown rows of bytes. -/
import Derived.Test.Qxb6500351aGreatEngI
set_option linter.unusedVariables false
set_option linter.unusedSimpArgs false
namespace Go.Eng
section
variable {α : Type} {e sz b cap : Nat} {R : List Value → α → List Chunk → Prop} {cur : Array Value} {l : List α} {gd : List Chunk}
theorem LOpen.field (h : LOpen e sz R b cap cur l gd) (k : Nat) (hk : k < l.length) {f : Nat} (hf : f < sz) {v : Value} (hv : ∀ x g, R x l[k] g → x[f]? = some v) : ∀ o, o = 0 + k * sz + f → cur[o]? = some v := by
  obtain ⟨x, ga, g1, gb, h1, h2, h3, h4⟩ := h.at k hk
  intro o ho
  rw [h4 f o hf ho]
  exact hv x g1 h2
theorem LOpen.bound (h : LOpen e sz R b cap cur l gd) (k : Nat) (hk : k < l.length) {f : Nat} (hf : f < sz) : ∀ o, o = 0 + k * sz + f → o < cur.size := by
  intro o ho
  have h2 := h.size
  have h3 := h.le
  have : (k + 1) * sz ≤ cap * sz := Nat.mul_le_mul_right _ (by omega)
  rw [Nat.succ_mul] at this; omega
theorem LOpen.set (h : LOpen e sz R b cap cur l gd) (k : Nat) (hk : k < l.length) {f : Nat} (hf : f < sz) {v : Value} {a' : α} (hv : ∀ x g, R x l[k] g → R (x.set f v) a' g) :
    ∀ o, o = 0 + k * sz + f → LOpen e sz R b cap (cur.setIfInBounds o v) (l.set k a') gd := by
  intro o ho
  obtain ⟨pa, x, pb, ga, g1, gb, h1, h2, h3, h4, h5, h6, h7⟩ := h.ex.get k hk
  refine ⟨by rw [List.length_set]; exact h.le, h.capm, by rw [Array.size_setIfInBounds]; exact h.size, ?_⟩
  have hlt : k * sz + f < l.length * sz := by
    have : (k + 1) * sz ≤ l.length * sz := Nat.mul_le_mul_right _ hk
    rw [Nat.succ_mul] at this; omega
  have e1 : (cur.setIfInBounds o v).toList.take ((l.set k a').length * sz) = pa ++ x.set f v ++ pb := by
    rw [List.length_set, Array.toList_setIfInBounds, List.take_set, h1, List.append_assoc, List.append_assoc]
    rw [List.set_append_right (h := by omega), List.set_append_left (h := by omega)]
    congr 3; omega
  rw [e1, h5]
  exact Elems.put hk h6 (by rw [List.length_set]; exact h3) (hv x g1 h4) h7
end
/-- a list that may be nil -/
def LstN {α : Type} (e sz : Nat) (R : List Value → α → List Chunk → Prop) (v : Value) (l : List α) (gv gd : List Chunk) : Prop := ∃ xs, Vec e sz v l.length xs gv ∧ Elems sz R xs l gd
theorem LstN.nil {α : Type} {e sz : Nat} {R : List Value → α → List Chunk → Prop} : LstN e sz R (.slice none 0 0) [] [] [] := ⟨[], ⟨by simp, .inl ⟨rfl, rfl, rfl⟩⟩, Elems.nil⟩
theorem LstN.of {α : Type} {e sz : Nat} {R : List Value → α → List Chunk → Prop} {v : Value} {l : List α} {gv gd : List Chunk} (h : Lst e sz R v l gv gd) : LstN e sz R v l gv gd := h.2
theorem LstN.lst {α : Type} {e sz : Nat} {R : List Value → α → List Chunk → Prop} {v : Value} {l : List α} {gv gd : List Chunk} (h : LstN e sz R v l gv gd) (hl : 0 < l.length) : Lst e sz R v l gv gd := by
  obtain ⟨xs, hv, he⟩ := h
  obtain ⟨b, cap, cur, rfl, _⟩ := hv.pos hl
  exact ⟨(fun z => nomatch z), xs, hv, he⟩
theorem LstN.slice {α : Type} {e sz : Nat} {R : List Value → α → List Chunk → Prop} {v : Value} {l : List α} {gv gd : List Chunk} (h : LstN e sz R v l gv gd) : ∃ p cap, v = .slice p l.length cap := by
  obtain ⟨xs, hv, he⟩ := h
  exact hv.slice
theorem LstN.to {α : Type} {e sz : Nat} {R : List Value → α → List Chunk → Prop} {v : Value} {l m : List α} {gv gd : List Chunk} (h : LstN e sz R v l gv gd) (k : l = m) : LstN e sz R v m gv gd := k ▸ h
section
variable {c : Cx} {all : Array Oper} {rest : List Oper} {T L : Env} {S : SH} {Q : Env → SH → Prop} {pos : String} {af : Array Edge} {ty : TypeId}
/-- append of one element to a list that may be nil -/
theorem o_lappN {α : Type} {R : List Value → α → List Chunk → Prop} {d : Nat} {x y : Operand} {t e sz bytes : Nat} {z : Array Value} {v : Value} {l : List α} {gv gd g1 : List Chunk} {u : α} {b2 : Nat} {css : Array Value} {t2 : TypeId} {fz : Nat × Nat} {F : SH}
    (hf : SlcZ c.P t e sz bytes z) (hsz : z.size = sz) (hx : Eng.gv (T ++ L) x = some v) (hy : Eng.gv (T ++ L) y = some (.slice (some ⟨b2, 0, none⟩) 1 1)) (hl : LstN e sz R v l gv gd) (hs : css.size = sz) (hp : css.toList.all plainV = true) (hR : R css.toList u g1)
    (hsel : Sel S [gv, gd, [(b2, .cells css t2 fz)], g1] F) (hb : (l.length + 1 + 4096) * bytes ≤ 70368744177664) (h63 : l.length + 1 ≤ 4611686018427387903) (hd : Nat.blt d c.n = true)
    (h : ∀ v' gv', Lst e sz R v' (l ++ [u]) gv' (gd ++ g1) → OkO c all rest ((d, v') :: T) L ([gv', gd ++ g1] ++ F) Q) :
    OkO c all (⟨some d, .call ⟨.builtin .append, #[x, y], #[t, t]⟩, ty, pos, af, none⟩ :: rest) T L S Q := by
  obtain ⟨xs, hv, he⟩ := hl
  refine o_front hsel ?_
  refine o_append hf hsz hx hy hv (fun g' => q0) (ms (ms m0)) rfl (by omega) (by rw [← hs]; simpa using hp) hb h63 hd fun v' g' hv' hn' => ?_
  have e1 : (css.extract 0 (0 + 1 * sz)).toList = css.toList := by rw [← hs]; simp
  rw [e1] at hv'
  have hN : LstN e sz R v' (l ++ [u]) g' (gd ++ g1) := ⟨xs ++ css.toList, by simpa using hv', he.app (Elems.one (by simp [hs]) hR)⟩
  exact o_drop sel4 (h v' g' (hN.lst (by simp)))
end
theorem madeSize (z : Array Value) (n : Nat) : (madeCells z n).size = n := by simp [madeCells]
theorem Vec.made {e sz n b : Nat} {z : Array Value} (hn : n ≤ maxLen) : Vec e sz (.slice (some ⟨b, 0, none⟩) 0 n) 0 [] [(b, .cells (madeCells z (n * sz)) e (0, 0))] :=
  ⟨by simp, .inr ⟨b, n, _, rfl, rfl, Nat.zero_le _, hn, madeSize _ _, by simp⟩⟩
/-- a grown row of bytes -/
def GB (v : Value) (l : List Int) (g : List Chunk) : Prop := Vec 5 1 v l.length (bV l) g ∧ Bytes l ∧ l.length ≤ 140737488355328
theorem GB.nil : GB (.slice none 0 0) [] [] := ⟨⟨by simp [bV], .inl ⟨rfl, rfl, rfl⟩⟩, (fun x hx => nomatch hx), Nat.zero_le _⟩
theorem GB.row {b : Nat} {l : List Int} (h : Bytes l) (hl : l.length ≤ 140737488355328) : GB (byV b l) l (byG b l 5) :=
  ⟨⟨by simp [bV], .inr ⟨b, l.length, _, rfl, rfl, Nat.le_refl _, Nat.le_trans hl (by rw [maxLen_eq]; decide), by simp [bV], by simp only [bV, Nat.mul_one]; exact List.take_of_length_le (by simp)⟩⟩, h, hl⟩
theorem GB.at {v : Value} {l : List Int} {g : List Chunk} (h : GB v l g) : (v = .slice none 0 0 ∧ l = [] ∧ g = []) ∨ ∃ b cap cur, v = .slice (some ⟨b, 0, none⟩) l.length cap ∧ g = [(b, .cells cur 5 (0, 0))] ∧ BytAt 0 l.length cap cur l := by
  obtain ⟨⟨h0, h1⟩, h2, h3⟩ := h
  rcases h1 with ⟨h4, h5, h6⟩ | ⟨b, cap, cur, h4, h5, h6, h7, h8, h9⟩
  · exact .inl ⟨h4, List.eq_nil_of_length_eq_zero h5, h6⟩
  · refine .inr ⟨b, cap, cur, h4, h5, ⟨rfl, by omega, h6, ?_, h2, h3⟩⟩
    rw [Array.toList_extract, List.extract_eq_take_drop]
    simpa using h9
end Go.Eng
