/- THINGS IN MEMORY: how a thing lies in cells (Lay), parts of a row of cells (At, Upd), lists that are read (Rd) and lists that are owned (Own). -/
import Derived.Test.Qxb6500350aGreatEngA
set_option linter.unusedVariables false
set_option linter.unusedSimpArgs false
namespace Go.Eng

/-! ### Parts of a row of cells -/
def At (cs : List Value) (o : Nat) (ws : List Value) : Prop := ∃ p q, cs = p ++ ws ++ q ∧ p.length = o
def Upd (cs : List Value) (o : Nat) (ws ws' cs' : List Value) : Prop := ∃ p q, cs = p ++ ws ++ q ∧ cs' = p ++ ws' ++ q ∧ p.length = o ∧ ws'.length = ws.length
theorem At.refl {cs : List Value} : At cs 0 cs := ⟨[], [], by simp, rfl⟩
theorem Upd.refl {cs cs' : List Value} (h : cs'.length = cs.length) : Upd cs 0 cs cs' cs' := ⟨[], [], by simp, by simp, rfl, h⟩
theorem At.comp {cs ws us : List Value} {o k : Nat} (h : At cs o ws) (g : At ws k us) : At cs (o + k) us := by
  obtain ⟨p, q, rfl, rfl⟩ := h
  obtain ⟨p', q', rfl, rfl⟩ := g
  exact ⟨p ++ p', q' ++ q, by simp, by simp⟩
theorem Upd.comp {cs cs' ws ws' us us' : List Value} {o k : Nat} (h : Upd cs o ws ws' cs') (g : Upd ws k us us' ws') : Upd cs (o + k) us us' cs' := by
  obtain ⟨p, q, rfl, rfl, rfl, h4⟩ := h
  obtain ⟨p', q', rfl, rfl, rfl, g4⟩ := g
  exact ⟨p ++ p', q' ++ q, by simp, by simp, by simp, g4⟩
theorem At.get {cs : List Value} {o : Nat} {v : Value} (h : At cs o [v]) : cs[o]? = some v := by
  obtain ⟨p, q, rfl, rfl⟩ := h
  simp
theorem At.getA {cs : Array Value} {o : Nat} {v : Value} (h : At cs.toList o [v]) : cs[o]? = some v := by
  have := h.get
  simpa using this
theorem At.ext {cs : Array Value} {o n : Nat} {ws : List Value} (h : At cs.toList o ws) (hn : ws.length = n) : cs.extract o (o + n) = ws.toArray := by
  obtain ⟨p, q, h1, rfl⟩ := h
  apply Array.ext'
  rw [Array.toList_extract, List.extract_eq_take_drop, h1, List.append_assoc, List.drop_left]
  simp [← hn]
theorem At.fit {cs : Array Value} {o n : Nat} {ws : List Value} (h : At cs.toList o ws) (hn : ws.length = n) : o + n ≤ cs.size := by
  obtain ⟨p, q, h1, rfl⟩ := h
  have := congrArg List.length h1
  simp at this
  omega
theorem Upd.at {cs cs' ws ws' : List Value} {o : Nat} (h : Upd cs o ws ws' cs') : At cs o ws := by
  obtain ⟨p, q, h1, _, h3, _⟩ := h
  exact ⟨p, q, h1, h3⟩
theorem Upd.set {cs cs' : List Value} {o : Nat} {u v : Value} (h : Upd cs o [u] [v] cs') : cs.toArray.setIfInBounds o v = cs'.toArray := by
  obtain ⟨p, q, rfl, rfl, rfl, _⟩ := h
  simp
theorem Upd.lt {cs cs' : List Value} {o : Nat} {u v : Value} (h : Upd cs o [u] [v] cs') : o < cs.toArray.size := by
  obtain ⟨p, q, rfl, rfl, rfl, _⟩ := h
  simp
theorem Upd.setAll {cs cs' ws ws' : List Value} {o : Nat} (h : Upd cs o ws ws' cs') : Eng.setAll cs.toArray o ws'.toArray.toList = cs'.toArray := by
  obtain ⟨p, q, rfl, rfl, rfl, h4⟩ := h
  apply Array.ext'
  rw [setAll_toList _ _ _ (by simp; omega)]
  simp [h4]
theorem Upd.fit {cs cs' ws ws' : List Value} {o n : Nat} (h : Upd cs o ws ws' cs') (hn : ws.length = n) : o + n ≤ cs.toArray.size := by
  obtain ⟨p, q, rfl, rfl, rfl, h4⟩ := h
  simp; omega

/-! ### Arrays -/
def upI {α : Type} (f : Int → α) (i : Int) (x : α) : Int → α := fun j => if j = i then x else f j
def encN {α : Type} (enc : α → List Value) (f : Int → α) : Nat → List Value
  | 0 => []
  | n + 1 => encN enc f n ++ enc (f (n : Int))
theorem encN_len {α : Type} {enc : α → List Value} {sz : Nat} (h : ∀ a, (enc a).length = sz) (f : Int → α) : ∀ n, (encN enc f n).length = n * sz
  | 0 => by simp [encN]
  | n + 1 => by simp [encN, encN_len h f n, h, Nat.succ_mul]
theorem encN_same {α : Type} {enc : α → List Value} {f g : Int → α} : ∀ (n : Nat), (∀ j : Int, 0 ≤ j → j < n → f j = g j) → encN enc f n = encN enc g n
  | 0, _ => rfl
  | n + 1, h => by
    simp only [encN]
    rw [encN_same n (fun j h1 h2 => h j h1 (by omega)), h n (by omega) (by omega)]
theorem encN_u {α : Type} {enc : α → List Value} {sz : Nat} (h : ∀ a, (enc a).length = sz) (f : Int → α) (x : α) (i : Int) (h0 : 0 ≤ i) : ∀ (n : Nat), i < n → Upd (encN enc f n) (i.toNat * sz) (enc (f i)) (enc x) (encN enc (upI f i x) n)
  | 0, h1 => by omega
  | n + 1, h1 => by
    by_cases hn : i = n
    · subst hn
      refine ⟨encN enc f n, [], by simp [encN], ?_, by simp [encN_len h], by simp [h]⟩
      simp only [encN, List.append_nil]
      rw [encN_same (f := upI f n x) (g := f) n (fun j _ h2 => by simp [upI]; omega)]
      simp [upI]
    · obtain ⟨p, q, e1, e2, e3, e4⟩ := encN_u h f x i h0 n (by omega)
      refine ⟨p, q ++ enc (f n), ?_, ?_, e3, e4⟩
      · simp only [encN, e1]; simp
      · simp only [encN, e2]
        have : upI f i x (n : Int) = f n := by simp [upI]; omega
        rw [this]; simp
theorem encN_a {α : Type} {enc : α → List Value} {sz : Nat} (h : ∀ a, (enc a).length = sz) (f : Int → α) (i : Int) (h0 : 0 ≤ i) (n : Nat) (h1 : i < n) : At (encN enc f n) (i.toNat * sz) (enc (f i)) := (encN_u h f (f i) i h0 n h1).at

/-! ### How a thing lies -/
structure Lay (α : Type) where
  sz : Nat
  ty : Nat
  rd : List Chunk → List Value → α → Prop
  len : ∀ {C vs a}, rd C vs a → vs.length = sz
  mono : ∀ {C C' vs a}, (∀ x, x ∈ C → x ∈ C') → rd C vs a → rd C' vs a
  plain : ∀ {C vs a}, rd C vs a → vs.all plainV = true
/-- a thing without slices -/
def flat {α : Type} (sz ty : Nat) (enc : α → List Value) (hl : ∀ a, (enc a).length = sz) (hp : ∀ a, (enc a).all plainV = true) : Lay α where
  sz := sz
  ty := ty
  rd := fun _ vs a => vs = enc a
  len := fun h => by rw [h]; exact hl _
  mono := fun _ h => h
  plain := fun h => by rw [h]; exact hp _

section
variable {α : Type} {R : Lay α}
def Els (R : Lay α) (C : List Chunk) : List Value → List α → Prop
  | xs, [] => xs = []
  | xs, a :: l => ∃ x xs', xs = x ++ xs' ∧ R.rd C x a ∧ Els R C xs' l
theorem Els.len {C : List Chunk} : ∀ {xs : List Value} {l : List α}, Els R C xs l → xs.length = l.length * R.sz
  | xs, [], h => by simp only [Els] at h; subst h; simp
  | xs, a :: l, ⟨x, xs', h1, h2, h3⟩ => by rw [h1, List.length_append, R.len h2, h3.len, List.length_cons, Nat.succ_mul, Nat.add_comm]
theorem Els.mono {C C' : List Chunk} (hC : ∀ x, x ∈ C → x ∈ C') : ∀ {xs : List Value} {l : List α}, Els R C xs l → Els R C' xs l
  | xs, [], h => h
  | xs, a :: l, ⟨x, xs', h1, h2, h3⟩ => ⟨x, xs', h1, R.mono hC h2, h3.mono hC⟩
theorem Els.plain {C : List Chunk} : ∀ {xs : List Value} {l : List α}, Els R C xs l → xs.all plainV = true
  | xs, [], h => by simp only [Els] at h; subst h; rfl
  | xs, a :: l, ⟨x, xs', h1, h2, h3⟩ => by rw [h1, List.all_append, R.plain h2, h3.plain]; rfl
theorem Els.app {C : List Chunk} : ∀ {xs ys : List Value} {l m : List α}, Els R C xs l → Els R C ys m → Els R C (xs ++ ys) (l ++ m)
  | xs, ys, [], m, h, k => by simp only [Els] at h; subst h; exact k
  | xs, ys, a :: l, m, ⟨x, xs', h1, h2, h3⟩, k => ⟨x, xs' ++ ys, by rw [h1, List.append_assoc], h2, h3.app k⟩
theorem Els.one {C : List Chunk} {x : List Value} {a : α} (h : R.rd C x a) : Els R C x [a] := ⟨x, [], by simp, h, rfl⟩
theorem Els.get {C : List Chunk} : ∀ {xs : List Value} {l : List α} {i : Nat} {a : α}, Els R C xs l → l[i]? = some a → ∃ x, At xs (i * R.sz) x ∧ R.rd C x a
  | xs, [], i, a, _, hi => by simp at hi
  | xs, a :: l, 0, b, ⟨x, xs', h1, h2, h3⟩, hi => by
    simp at hi; subst hi
    exact ⟨x, ⟨[], xs', by simpa using h1, by simp⟩, h2⟩
  | xs, a :: l, i + 1, b, ⟨x, xs', h1, h2, h3⟩, hi => by
    obtain ⟨y, ⟨p, q, e1, e2⟩, h5⟩ := Els.get (i := i) h3 (by simpa using hi)
    exact ⟨y, ⟨x ++ p, q, by rw [h1, e1]; simp, by rw [List.length_append, R.len h2, e2, Nat.succ_mul, Nat.add_comm]⟩, h5⟩
theorem Els.set {C : List Chunk} : ∀ {xs : List Value} {l : List α} {i : Nat} {a : α} {y : List Value}, Els R C xs l → i < l.length → R.rd C y a → ∃ x xs', Upd xs (i * R.sz) x y xs' ∧ Els R C xs' (l.set i a)
  | xs, [], i, a, y, _, hi, _ => by simp at hi
  | xs, b :: l, 0, a, y, ⟨x, xs', h1, h2, h3⟩, hi, hy =>
    ⟨x, y ++ xs', ⟨[], xs', by simpa using h1, by simp, by simp, by rw [R.len hy, R.len h2]⟩, ⟨y, xs', rfl, hy, h3⟩⟩
  | xs, b :: l, i + 1, a, y, ⟨x, xs', h1, h2, h3⟩, hi, hy => by
    obtain ⟨z, zs, ⟨p, q, e1, e2, e3, e4⟩, h5⟩ := Els.set (i := i) h3 (by simpa using hi) hy
    exact ⟨z, x ++ zs, ⟨x ++ p, q, by rw [h1, e1]; simp, by rw [e2]; simp, by rw [List.length_append, R.len h2, e3, Nat.succ_mul, Nat.add_comm], e4⟩, ⟨x, zs, rfl, h2, h5⟩⟩
theorem Els.drop {C : List Chunk} : ∀ {xs : List Value} {l : List α} (k : Nat), Els R C xs l → Els R C (xs.drop (k * R.sz)) (l.drop k)
  | xs, l, 0, h => by simpa using h
  | xs, [], k + 1, h => by simp only [Els] at h; subst h; simp [Els]
  | xs, a :: l, k + 1, ⟨x, xs', h1, h2, h3⟩ => by
    have : (k + 1) * R.sz = x.length + k * R.sz := by rw [R.len h2, Nat.succ_mul, Nat.add_comm]
    rw [this, h1, ← List.drop_drop, List.drop_left, List.drop_succ_cons]
    exact h3.drop k
theorem Els.take {C : List Chunk} : ∀ {xs : List Value} {l : List α} (k : Nat), Els R C xs l → Els R C (xs.take (k * R.sz)) (l.take k)
  | xs, l, 0, h => by simp [Els]
  | xs, [], k + 1, h => by simp only [Els] at h; subst h; simp [Els]
  | xs, a :: l, k + 1, ⟨x, xs', h1, h2, h3⟩ => by
    have : (k + 1) * R.sz = x.length + k * R.sz := by rw [R.len h2, Nat.succ_mul, Nat.add_comm]
    rw [this, h1, List.take_length_add_append, List.take_succ_cons]
    exact ⟨x, _, rfl, h2, h3.take k⟩
theorem Els.rep {C : List Chunk} {z : List Value} {a : α} (h : R.rd C z a) : ∀ (n : Nat), Els R C ((List.replicate n z).flatten) (List.replicate n a)
  | 0 => by simp [Els]
  | n + 1 => by
    rw [List.replicate_succ, List.replicate_succ, List.flatten_cons]
    exact ⟨z, _, rfl, h, Els.rep h n⟩

/-- v is a slice that shows l; its row lies in C (or it is empty) -/
def Rd (R : Lay α) (C : List Chunk) (v : Value) (l : List α) : Prop :=
  (l = [] ∧ ∃ p cap, v = .slice p 0 cap) ∨ ∃ b o cap cs t fz, v = .slice (some ⟨b, o, none⟩) l.length cap ∧ (b, Obj.cells cs t fz) ∈ C ∧ l.length ≤ cap ∧ o + l.length * R.sz ≤ cs.size ∧ Els R C (cs.extract o (o + l.length * R.sz)).toList l
/-- v is a slice that shows l and may be grown and written; g is its row, and behind it all that its elements lie in -/
def Own (R : Lay α) (v : Value) (l : List α) (g : List Chunk) : Prop :=
  (v = .slice none 0 0 ∧ l = []) ∨ ∃ b cap cur rest, v = .slice (some ⟨b, 0, none⟩) l.length cap ∧ g = (b, Obj.cells cur R.ty (0, 0)) :: rest ∧ l.length ≤ cap ∧ cap ≤ maxLen ∧ cur.size = cap * R.sz ∧ Els R rest (cur.toList.take (l.length * R.sz)) l
theorem Rd.slice {C : List Chunk} {v : Value} {l : List α} (h : Rd R C v l) : ∃ p cap, v = .slice p l.length cap := by
  rcases h with ⟨rfl, p, cap, rfl⟩ | ⟨b, o, cap, _, _, _, rfl, _⟩
  · exact ⟨p, cap, rfl⟩
  · exact ⟨_, _, rfl⟩
theorem Rd.mono {C C' : List Chunk} {v : Value} {l : List α} (hC : ∀ x, x ∈ C → x ∈ C') (h : Rd R C v l) : Rd R C' v l := by
  rcases h with h | ⟨b, o, cap, cs, t, fz, h1, h2, h3, h4, h5⟩
  · exact .inl h
  · exact .inr ⟨b, o, cap, cs, t, fz, h1, hC _ h2, h3, h4, h5.mono hC⟩
theorem Rd.nil {C : List Chunk} : Rd R C (.slice none 0 0) [] := .inl ⟨rfl, _, _, rfl⟩
theorem Own.nil {g : List Chunk} : Own R (.slice none 0 0) [] g := .inl ⟨rfl, rfl⟩
theorem Own.rd {v : Value} {l : List α} {g : List Chunk} (h : Own R v l g) : Rd R g v l := by
  rcases h with ⟨rfl, rfl⟩ | ⟨b, cap, cur, rest, rfl, rfl, h1, h2, h3, h4⟩
  · exact .nil
  · refine .inr ⟨b, 0, cap, cur, R.ty, (0, 0), rfl, by simp, h1, by rw [h3, Nat.zero_add]; exact Nat.mul_le_mul_right _ h1, ?_⟩
    rw [Array.toList_extract, List.extract_eq_take_drop]
    simpa using h4.mono (fun x hx => List.mem_cons_of_mem _ hx)
/-- the first so many, or all behind so many -/
theorem Rd.sub {C : List Chunk} {b o n cap : Nat} {v : Value} {l : List α} (h : Rd R C v l) (lo hi : Nat) (h1 : lo ≤ hi) (h2 : hi ≤ l.length) (hv : v = .slice (some ⟨b, o, none⟩) n cap) : Rd R C (.slice (some ⟨b, (if cap = lo then o else o + lo * R.sz), none⟩) (hi - lo) (cap - lo)) ((l.drop lo).take (hi - lo)) := by
  subst hv
  rcases h with ⟨rfl, p, c', h3⟩ | ⟨b', o', cap', cs, t, fz, h3, h4, h5, h6, h7⟩
  · simp at h2
    obtain rfl : lo = 0 := by omega
    subst h2
    exact .inl ⟨rfl, _, _, rfl⟩
  · injection h3 with e1 e2 e3
    injection e1 with e1
    injection e1 with e4 e5 e6
    subst e2 e3 e4 e5
    by_cases hz : hi - lo = 0
    · rw [hz]; exact .inl ⟨by simp, _, _, rfl⟩
    · have hl : ((l.drop lo).take (hi - lo)).length = hi - lo := by simp; omega
      rw [if_neg (by omega)]
      have hm : lo * R.sz + (hi - lo) * R.sz ≤ l.length * R.sz := by rw [← Nat.add_mul]; exact Nat.mul_le_mul_right _ (by omega)
      refine .inr ⟨b, o + lo * R.sz, cap - lo, cs, t, fz, by rw [hl], h4, by rw [hl]; omega, by rw [hl]; omega, ?_⟩
      rw [hl]
      have h8 := (h7.drop lo).take (hi - lo)
      have e8 : (((cs.extract o (o + l.length * R.sz)).toList.drop (lo * R.sz)).take ((hi - lo) * R.sz)) = (cs.extract (o + lo * R.sz) (o + lo * R.sz + (hi - lo) * R.sz)).toList := by
        simp only [Array.toList_extract, List.extract_eq_take_drop, List.drop_take, List.drop_drop, List.take_take]
        congr 1
        omega
      rw [e8] at h8
      exact h8
end
/-- a slice as an element -/
def rList {α : Type} (R : Lay α) (ty : Nat) : Lay (List α) where
  sz := 1
  ty := ty
  rd := fun C vs l => ∃ v, vs = [v] ∧ Rd R C v l
  len := fun ⟨v, h, _⟩ => by rw [h]; rfl
  mono := fun hC ⟨v, h, k⟩ => ⟨v, h, k.mono hC⟩
  plain := fun ⟨v, h, k⟩ => by
    obtain ⟨p, cap, rfl⟩ := k.slice
    rw [h]; rfl
end Go.Eng
