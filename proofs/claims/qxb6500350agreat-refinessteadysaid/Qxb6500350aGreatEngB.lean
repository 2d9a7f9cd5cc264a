/- THE ENGINE, part 8: choosing groups in any order; rows of bytes made, set, copied. -/
import Derived.Test.Qxb6500350aGreatEngL
set_option linter.unusedVariables false
set_option linter.unusedSimpArgs false
namespace Go.Eng

def Tk (S : SH) (g : List Chunk) (S' : SH) : Prop := S.flatten.Perm (g ++ S'.flatten)
theorem k0 {g : List Chunk} {R : SH} : Tk (g :: R) g R := by unfold Tk; simp
theorem ks {g h : List Chunk} {R R' : SH} (k : Tk R g R') : Tk (h :: R) g (h :: R') := by
  unfold Tk at *
  simp only [List.flatten_cons]
  exact (k.append_left h).trans (by rw [← List.append_assoc, ← List.append_assoc]; exact List.perm_append_comm.append_right _)
theorem s_get {S S' A F : SH} {g : List Chunk} (h : Tk S g S') (k : Sel S' A F) : Sel S (g :: A) F := by
  unfold Sel Tk at *
  refine h.trans ?_
  simp only [List.flatten_cons, List.append_assoc]
  exact k.append_left g
theorem Sel.all {S A : SH} (h : Sel S A []) : S.flatten.Perm A.flatten := by unfold Sel at h; simpa using h

section
variable {c : Cx} {e L T : Env} {S : SH} {Q : Exit → Env → SH → Prop}
theorem c_loopG {x : Code} {ι : Type} (sh : ι → Env) (G : ι → SH) {R : SH} (I : ι → Prop) (μ : ι → Nat) (i0 : ι) {F : SH} (h0 : I i0) (he0 : EnvHas (sh i0) e) (hS0 : Sel S (G i0 ++ R) F)
    (h : ∀ i, I i → OkC c x (sh i ++ e) (G i ++ R) (fun ex e' S' => match ex with
      | .normal => Meet sh (fun j => G j ++ R) (fun j => I j ∧ μ j < μ i) e e' S'
      | _ => Q ex e' S')) : OkC c (.loop x) e S Q := c_loopS sh (fun j => G j ++ R) I μ i0 h0 he0 hS0 h
theorem c_joinG {x y : Code} {ι : Type} (sh : ι → Env) (G : ι → SH) (R : SH) (I : ι → Prop)
    (h : OkC c x e S (fun ex e' S' => match ex with | .normal => Meet sh (fun j => G j ++ R) I e e' S' | _ => Q ex e' S'))
    (k : ∀ j, I j → OkC c y (sh j ++ e) (G j ++ R) Q) : OkC c (.seq x y) e S Q := c_joinS sh (fun j => G j ++ R) I h k
end

theorem fb0 {pl : List (Nat × Nat)} {cs : Array Value} : fillE pl cs [] = some cs := rfl
theorem fb {pl : List (Nat × Nat)} {cs cs' : Array Value} {i off : Nat} {v : Value} {r : List (Nat × Value)} {out : Option (Array Value)} (hp : pl[i]? = some (off, 1)) (hv : v.cells = #[v]) (hl : Nat.ble (off + 1) cs.size = true) (hs : cs.setIfInBounds off v = cs') (hr : fillE pl cs' r = out) :
    fillE pl cs ((i, v) :: r) = out := by
  subst hs; subst hr
  simp only [fillE, hp, hv, hl]
  rfl
theorem c_row {c : Cx} {e : Env} {S S' : SH} {Q : Exit → Env → SH → Prop} {x : Code} {g g' : List Chunk} (hr : RepG S S' g g') (h : g = g') (k : OkC c x e S' Q) : OkC c x e S Q := by
  subst h
  obtain ⟨A, B, rfl, rfl⟩ := hr
  exact k
theorem w64y {o n cap i : Nat} {cs : Array Value} {l : List Int} (h : BytAt o n cap cs l) : IntKind.i64.wrap (l.getD i 0) = l.getD i 0 := w64 (by have := h.rng i; omega)
theorem w64g {l : List Int} {i : Nat} (h : Bytes l) : IntKind.i64.wrap (l.getD i 0) = l.getD i 0 := w64 (by
  rw [List.getD_eq_getElem?_getD]
  cases hx : l[i]? with
  | none => simp
  | some x => have := h x (List.mem_of_getElem? hx); simp; omega)
theorem Bytes.getD {l : List Int} (h : Bytes l) (i : Nat) : 0 ≤ l.getD i 0 ∧ l.getD i 0 < 256 := by
  rw [List.getD_eq_getElem?_getD]
  cases hx : l[i]? with
  | none => simp
  | some x => exact h x (List.mem_of_getElem? hx)
theorem bV_set (l : List Int) (i : Nat) (x : Int) {k : Nat} (hk : k = 0 + i * 1) : (bV l).toArray.setIfInBounds k (.int .u8 x) = (bV (l.set i x)).toArray := by
  subst hk
  simp [bV, List.map_set]
theorem bV_size (l : List Int) {k : Nat} (h : k < l.length) : k < (bV l).toArray.size := by simpa [bV] using h
theorem made_b (n : Nat) : madeCells #[Value.int .u8 0] (n * 1) = (bV (List.replicate n 0)).toArray := by
  apply Array.ext
  · simp [madeCells, bV]
  · intro i h1 h2
    simp [madeCells, bV, Nat.mod_one]

section
variable {c : Cx} {all : Array Oper} {rest : List Oper} {T L : Env} {S : SH} {Q : Env → SH → Prop} {pos : String} {af : Array Edge} {ty : TypeId}
theorem o_makeB {d : Nat} {x y : Operand} {t e bytes : Nat} {kl kc : IntKind} {p q : Int} (n : Nat) (hf : SlcZ c.P t e 1 bytes #[.int .u8 0]) (hx : gv (T ++ L) x = some (.int kl p)) (hy : gv (T ++ L) y = some (.int kc q)) (hp : p = (n : Int)) (hq : q = (n : Int))
    (hb : bytes * n ≤ 281474976710656) (h63 : n ≤ 9223372036854775807) (hd : Nat.blt d c.n = true)
    (h : ∀ b, OkO c all rest ((d, .slice (some ⟨b, 0, none⟩) n n) :: T) L (byG b (List.replicate n 0) e :: S) Q) :
    OkO c all (⟨some d, .makeSlice t x y, ty, pos, af, none⟩ :: rest) T L S Q :=
  o_make n n hf hx hy hp hq (Nat.le_refl _) hb h63 hd fun b => by rw [made_b]; exact h b
/-- copy onto a fresh row of bytes -/
theorem o_copyB {d : Option Nat} {x y : Operand} {t ts e bytes : Nat} {z : Array Value} {bd od dl dc bs os sl sc : Nat} {l src : List Int} {css : Array Value} {td t2 : TypeId} {fz : Nat × Nat} {S' : SH} (n : Nat)
    (hf : SlcZ c.P t e 1 bytes z) (hx : gv (T ++ L) x = some (.slice (some ⟨bd, od, none⟩) dl dc)) (hy : gv (T ++ L) y = some (.slice (some ⟨bs, os, none⟩) sl sc)) (hs : BytAt os sl sc css src) (hn : n = Nat.min sl dl)
    (hr : Rep S S' (bd, .cells (bV l).toArray td (0, 0)) (bd, .cells (bV (l.take od ++ src.take n ++ l.drop (od + n))).toArray td (0, 0))) (hm : (bs, Obj.cells css t2 fz) ∈ S.flatten)
    (hfd : od + dl ≤ l.length) (hd : d = none ∨ ∃ s, d = some s ∧ Nat.blt s c.n = true ∧ apartB [(s, undef)] (T ++ L) = true)
    (h : OkO c all rest T L S' Q) : OkO c all (⟨d, .call ⟨.builtin .copy, #[x, y], #[t, ts]⟩, ty, pos, af, none⟩ :: rest) T L S Q := by
  have h1 : n ≤ sl := by rw [hn]; exact Nat.min_le_left _ _
  have h2 : n ≤ dl := by rw [hn]; exact Nat.min_le_right _ _
  have hex : (css.extract os (os + n)).toList = bV (src.take n) := by
    have h3 := congrArg (fun (x : List Value) => x.take n) hs.shows
    simp only [bV, List.map_take] at h3 ⊢
    rw [← h3]
    simp only [Array.toList_extract, List.extract_eq_take_drop, List.take_take]
    congr 1
    omega
  have hfit := hs.fit
  refine o_copy (sz := 1) n hf hx hy hn hr hm ?_ (by simp [bV]; omega) (by omega) (by rw [hex]; exact bV_plain _) hd h
  rw [hex]
  simp [bV, List.map_take, List.map_drop]
end
theorem byV_eq {b n : Nat} {l : List Int} (h : l.length = n) : (.slice (some ⟨b, 0, none⟩) n n : Value) = byV b l := by subst h; rfl
theorem byG_eq {b e : Nat} {l l' : List Int} (h : l = l') : byG b l e = byG b l' e := h ▸ rfl
theorem bs2 {x y : List Chunk} {x' y' : List Chunk} (h : x = x') (k : y = y') : [x, y] = [x', y'] := by rw [h, k]
/-! ### bytes lying in an array field -/
theorem arr_byt {cs : Array Value} {r : Nat → Int} (o N : Nat) (hr : ∀ i, i < N → cs[o + i]? = some (.int .u8 (r i))) (hb : ∀ i, 0 ≤ r i ∧ r i < 256) (hN : N < 1000) (hsz : o + N ≤ cs.size) (lo hi : Nat) (h1 : lo ≤ hi) (h2 : hi ≤ N) :
    BytAt (if N = lo then o else o + lo * 1) (hi - lo) (N - lo) cs ((List.range (hi - lo)).map fun i => r (lo + i)) := by
  by_cases hz : hi - lo = 0
  · rw [hz]
    refine ⟨by simp, ?_, by omega, by simp [bV], by intro x hx; simp at hx, by omega⟩
    split <;> omega
  · have hne : ¬ N = lo := by omega
    rw [if_neg hne]
    refine ⟨by simp, by omega, by omega, ?_, ?_, by omega⟩
    · apply List.ext_getElem?
      intro i
      simp only [Array.toList_extract, List.extract_eq_take_drop, List.getElem?_take, List.getElem?_drop, Array.getElem?_toList, bV, List.getElem?_map, Nat.mul_one]
      by_cases hi' : i < hi - lo
      · rw [if_pos (by omega), Nat.add_assoc, hr (lo + i) (by omega)]
        simp [hi']
      · rw [if_neg (by omega)]
        simp [hi']
    · intro x hx
      obtain ⟨i, _, rfl⟩ := List.mem_map.1 hx
      exact hb _
theorem arr_put {cs cs' : Array Value} {o n : Nat} {src : List Int} (hn : src.length = n) (hs : cs'.size = cs.size) (hf : o + n ≤ cs.size) (h : ∀ j, j < cs.size → cs'[j]? = if o ≤ j ∧ j < o + n then some (.int .u8 (src.getD (j - o) 0)) else cs[j]?) :
    (cs.toList.take o ++ bV src ++ cs.toList.drop (o + n)).toArray = cs' := by
  apply Array.ext
  · simp [bV, hn, hs]; omega
  · intro j h1 h2
    have h3 := h j (by omega)
    rw [Array.getElem?_eq_getElem h2] at h3
    have h4 : ((cs.toList.take o ++ bV src ++ cs.toList.drop (o + n)).toArray)[j]? = some cs'[j] := by
      rw [h3]
      simp only [List.getElem?_toArray]
      split
      · rename_i hc
        rw [List.getElem?_append_left (by simp [bV, hn]; omega), List.getElem?_append_right (by simp; omega)]
        have h5 : j - (cs.toList.take o).length = j - o := by simp; omega
        rw [h5, bV_get (by omega), List.getD_eq_getElem?_getD, List.getElem?_eq_getElem (by omega : j - o < src.length)]
        rfl
      · rename_i hc
        by_cases ho : j < o
        · rw [List.getElem?_append_left (by simp; omega), List.getElem?_append_left (by simp; omega), List.getElem?_take, if_pos ho]
          simp
        · rw [List.getElem?_append_right (by simp [bV, hn]; omega), List.getElem?_drop]
          simp [bV, hn]
          congr 1
          omega
    rw [Array.getElem?_eq_getElem h1] at h4
    exact Option.some.inj h4
end Go.Eng
