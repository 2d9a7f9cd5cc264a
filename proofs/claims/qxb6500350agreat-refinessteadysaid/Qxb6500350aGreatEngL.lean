/- THE ENGINE, part 7: loops and joins that shadow a few slots; byte slices; lists of things. -/
import Derived.Test.Qxb6500350aGreatEngX
import Derived.Test.Qxb6500350aGreatEngV
set_option linter.unusedVariables false
set_option linter.unusedSimpArgs false
namespace Go.Eng

def EnvHas : Env → Env → Prop
  | [], _ => True
  | (s, v) :: r, e => gt e s = some v ∧ EnvHas r e
theorem EnvHas.get {e : Env} : ∀ {sh : Env}, EnvHas sh e → ∀ t v, gt sh t = some v → gt e t = some v
  | [], _, t, v, h => by simp [gt] at h
  | (s, u) :: r, ⟨h1, h2⟩, t, v, h => by
    simp only [gt] at h
    split at h
    · rename_i hb
      obtain rfl := Nat.eq_of_beq_eq_true hb
      rw [h1, ← h]
    · exact h2.get t v h
/-- the slots that N names are named by sh or bound nowhere in e -/
def coverB (sh e : Env) : Env → Bool
  | [] => true
  | (s, _) :: r => match gt sh s with
    | some _ => coverB sh e r
    | none => match gt e s with
      | some _ => false
      | none => coverB sh e r
theorem coverB_get {sh e : Env} : ∀ {N : Env}, coverB sh e N = true → ∀ t v u, gt N t = some v → gt sh t = none → gt e t = some u → False
  | [], _, t, v, u, h, _, _ => by simp [gt] at h
  | (s, w) :: r, hc, t, v, u, h, h1, h2 => by
    simp only [gt] at h
    simp only [coverB] at hc
    split at h
    · rename_i hb
      obtain rfl := Nat.eq_of_beq_eq_true hb
      simp [h1, h2] at hc
    · refine coverB_get (N := r) ?_ t v u h h1 h2
      split at hc
      · exact hc
      · split at hc
        · cases hc
        · exact hc
def Cov (sh e' e : Env) : Prop := e'.drop (e'.length - e.length) = e ∧ coverB sh e (e'.take (e'.length - e.length)) = true
theorem env_cov {sh e' e : Env} (h1 : EnvHas sh e') (h2 : Cov sh e' e) : ∀ t v, gt (sh ++ e) t = some v → gt e' t = some v := by
  intro t v ht
  rw [gt_append] at ht
  cases hs : gt sh t with
  | some x => rw [hs] at ht; rw [← (show some x = some v by simpa using ht)]; exact h1.get t x hs
  | none =>
    rw [hs] at ht
    simp only [Option.none_or] at ht
    rw [← List.take_append_drop (e'.length - e.length) e', gt_append, h2.1]
    cases hn : gt (e'.take (e'.length - e.length)) t with
    | none => simpa using ht
    | some y => exact (coverB_get h2.2 t y v hn hs ht).elim
theorem env_sh {sh e : Env} (h1 : EnvHas sh e) : ∀ t v, gt (sh ++ e) t = some v → gt e t = some v := by
  intro t v ht
  rw [gt_append] at ht
  cases hs : gt sh t with
  | some x => rw [hs] at ht; rw [← (show some x = some v by simpa using ht)]; exact h1.get t x hs
  | none => rw [hs] at ht; simpa using ht

section
variable {c : Cx} {e L T : Env} {S : SH} {Q : Exit → Env → SH → Prop}
/-- what holds where the ways meet again -/
def Meet {ι : Type} (sh : ι → Env) (H : ι → SH) (I : ι → Prop) (e e' : Env) (S' : SH) : Prop :=
  ∃ j, I j ∧ EnvHas (sh j) e' ∧ Cov (sh j) e' e ∧ ∃ F, Sel S' (H j) F
theorem c_joinS {x y : Code} {ι : Type} (sh : ι → Env) (H : ι → SH) (I : ι → Prop)
    (h : OkC c x e S (fun ex e' S' => match ex with | .normal => Meet sh H I e e' S' | _ => Q ex e' S'))
    (k : ∀ j, I j → OkC c y (sh j ++ e) (H j) Q) : OkC c (.seq x y) e S Q :=
  c_seq (c_mono h fun ex e' S' hq => by
    cases ex
    case normal =>
      obtain ⟨j, hj, h1, h2, F, hF⟩ := hq
      exact c_drop hF (c_env (env_cov h1 h2) (k j hj))
    all_goals exact hq)
theorem c_loopS {x : Code} {ι : Type} (sh : ι → Env) (H : ι → SH) (I : ι → Prop) (μ : ι → Nat) (i0 : ι) {F : SH} (h0 : I i0) (he0 : EnvHas (sh i0) e) (hS0 : Sel S (H i0) F)
    (h : ∀ i, I i → OkC c x (sh i ++ e) (H i) (fun ex e' S' => match ex with
      | .normal => Meet sh H (fun j => I j ∧ μ j < μ i) e e' S'
      | _ => Q ex e' S')) : OkC c (.loop x) e S Q :=
  fun a w he hs => by
    refine wp_loop_rel (fun a w m => ∃ i, I i ∧ μ i = m ∧ EnvOk c.n (sh i ++ e) a ∧ St c.w0 c.K0 w (H i)) (μ i0) ⟨i0, h0, rfl, he.sub (env_sh he0), hs.drop hS0⟩ ?_
    rintro a w m ⟨i, hi, rfl, h1, h2⟩
    refine Code.wp_mono (fun ex a' w' ⟨e', S', h3, h4, h5⟩ => ?_) (h i hi a w h1 h2)
    cases ex
    case normal => obtain ⟨j, ⟨hj, hm⟩, hE, hC, F, hF⟩ := h5; exact ⟨μ j, hm, j, hj, rfl, h3.sub (env_cov hE hC), h4.drop hF⟩
    all_goals exact ⟨e', S', h3, h4, h5⟩
end

theorem gteI {E : Env} {s : Nat} {k : IntKind} {p q : Int} (h : gt E s = some (.int k p)) (e : p = q) : gt E s = some (.int k q) := by rw [h, e]
theorem gte {E : Env} {s : Nat} {v w : Value} (h : gt E s = some v) (e : v = w) : gt E s = some w := by rw [h, e]
/-! ### Bytes -/
def bV (l : List Int) : List Value := l.map (Value.int .u8)
theorem bV_len (l : List Int) : (bV l).length = l.length := by simp [bV]
theorem bV_get {l : List Int} {i : Nat} (h : i < l.length) : (bV l)[i]? = some (.int .u8 l[i]) := by simp [bV, h]
theorem bV_plain (l : List Int) : (bV l).all plainV = true := by
  rw [List.all_eq_true]; intro v hv
  obtain ⟨n, _, rfl⟩ := List.mem_map.1 hv
  rfl
def Bytes (l : List Int) : Prop := ∀ x, x ∈ l → 0 ≤ x ∧ x < 256
theorem Bytes.get {l : List Int} (h : Bytes l) {i : Nat} (hi : i < l.length) : 0 ≤ l[i] ∧ l[i] < 256 := h _ (List.getElem_mem hi)
theorem Bytes.append {l m : List Int} (h : Bytes l) (k : Bytes m) : Bytes (l ++ m) := fun x hx => (List.mem_append.1 hx).elim (h x) (k x)
theorem Bytes.take {l : List Int} (h : Bytes l) (n : Nat) : Bytes (l.take n) := fun x hx => h x (List.mem_of_mem_take hx)
theorem Bytes.drop {l : List Int} (h : Bytes l) (n : Nat) : Bytes (l.drop n) := fun x hx => h x (List.mem_of_mem_drop hx)
/-- n bytes of the row cs from place o on show l -/
structure BytAt (o n cap : Nat) (cs : Array Value) (l : List Int) : Prop where
  n_eq : l.length = n
  fit : o + n ≤ cs.size
  cap : n ≤ cap
  shows : (cs.extract o (o + n)).toList = bV l
  bytes : Bytes l
  len : n ≤ 140737488355328
/-- the value v, read as a slice of bytes, shows l; the group g is its row -/
def Byt (v : Value) (l : List Int) (g : List Chunk) : Prop :=
  (v = .slice none 0 0 ∧ l = [] ∧ g = []) ∨ ∃ b o n cap cs e, v = .slice (some ⟨b, o, none⟩) n cap ∧ g = [(b, .cells cs e (0, 0))] ∧ BytAt o n cap cs l
theorem Byt.bytes {v : Value} {l : List Int} {g : List Chunk} (h : Byt v l g) : Bytes l := by
  rcases h with ⟨_, rfl, _⟩ | ⟨_, _, _, _, _, _, _, _, h⟩
  · intro x hx; cases hx
  · exact h.bytes
theorem Byt.len {v : Value} {l : List Int} {g : List Chunk} (h : Byt v l g) : l.length ≤ 140737488355328 := by
  rcases h with ⟨_, rfl, _⟩ | ⟨_, _, _, _, _, _, _, _, h⟩
  · simp
  · rw [h.n_eq]; exact h.len
theorem Byt.slice {v : Value} {l : List Int} {g : List Chunk} (h : Byt v l g) : ∃ p cap, v = .slice p l.length cap := by
  rcases h with ⟨rfl, rfl, _⟩ | ⟨b, o, n, cap, _, _, rfl, _, h⟩
  · exact ⟨_, _, rfl⟩
  · rw [h.n_eq]; exact ⟨_, _, rfl⟩
theorem Byt.pos {v : Value} {l : List Int} {g : List Chunk} (h : Byt v l g) (hn : 0 < l.length) : ∃ b o n cap cs e, v = .slice (some ⟨b, o, none⟩) n cap ∧ g = [(b, .cells cs e (0, 0))] ∧ BytAt o n cap cs l := by
  rcases h with ⟨_, rfl, _⟩ | h
  · simp at hn
  · exact h
theorem BytAt.get {o n cap : Nat} {cs : Array Value} {l : List Int} (h : BytAt o n cap cs l) {i k : Nat} (hi : i < l.length) (hk : k = o + i * 1) : cs[k]? = some (.int .u8 l[i]) := by
  subst hk
  have h1 := congrArg (fun (x : List Value) => x[i]?) h.shows
  simp only [bV_get hi] at h1
  rw [← h1]
  have := h.n_eq
  simp only [Array.toList_extract, List.extract_eq_take_drop, List.getElem?_take, List.getElem?_drop, Array.getElem?_toList, Nat.mul_one]
  rw [if_pos (by omega)]
theorem BytAt.getD {o n cap : Nat} {cs : Array Value} {l : List Int} (h : BytAt o n cap cs l) {i k : Nat} (hi : i < n) (hk : k = o + i * 1) : cs[k]? = some (.int .u8 (l.getD i 0)) := by
  have h2 : i < l.length := by rw [h.n_eq]; exact hi
  rw [h.get h2 hk, List.getD_eq_getElem?_getD, List.getElem?_eq_getElem h2]; rfl
theorem BytAt.rng {o n cap : Nat} {cs : Array Value} {l : List Int} (h : BytAt o n cap cs l) (i : Nat) : 0 ≤ l.getD i 0 ∧ l.getD i 0 < 256 := by
  rw [List.getD_eq_getElem?_getD]
  cases hx : l[i]? with
  | none => simp
  | some x => exact h.bytes x (List.mem_of_getElem? hx)
theorem BytAt.sub {o n cap : Nat} {cs : Array Value} {l : List Int} (h : BytAt o n cap cs l) (lo hi : Nat) (h1 : lo ≤ hi) (h2 : hi ≤ n) : BytAt (if cap = lo then o else o + lo * 1) (hi - lo) (cap - lo) cs ((l.drop lo).take (hi - lo)) := by
  have hn := h.n_eq
  have hc := h.cap
  have hl : ((l.drop lo).take (hi - lo)).length = hi - lo := by simp; omega
  have h3 := congrArg (fun (x : List Value) => (x.drop lo).take (hi - lo)) h.shows
  split
  · have h0 : hi - lo = 0 := by omega
    rw [h0]
    refine ⟨by simp, by have := h.fit; omega, by omega, by simp [bV], by intro x hx; simp at hx, by omega⟩
  · refine ⟨hl, by have := h.fit; omega, by omega, ?_, (h.bytes.drop _).take _, by have := h.len; omega⟩
    simp only [bV, List.map_take, List.map_drop, Nat.mul_one] at h3 ⊢
    rw [← h3]
    simp only [Array.toList_extract, List.extract_eq_take_drop, List.drop_take, List.drop_drop, List.take_take]
    congr 1
    omega
/-- a fresh row of bytes -/
abbrev byV (b : Nat) (l : List Int) : Value := .slice (some ⟨b, 0, none⟩) l.length l.length
abbrev byG (b : Nat) (l : List Int) (e : Nat) : List Chunk := [(b, .cells (bV l).toArray e (0, 0))]
theorem BytAt.full {l : List Int} (hb : Bytes l) (hl : l.length ≤ 140737488355328) : BytAt 0 l.length l.length (bV l).toArray l :=
  ⟨rfl, by simp [bV], Nat.le_refl _, by simp [bV, Array.extract_eq_self_of_le], hb, hl⟩
theorem BytAt.ful {l : List Int} {n : Nat} (hn : l.length = n) (hb : Bytes l) (hl : n ≤ 140737488355328) : BytAt 0 n n (bV l).toArray l := by subst hn; exact .full hb hl
theorem Byt.full {b : Nat} {l : List Int} {e : Nat} (hb : Bytes l) (hl : l.length ≤ 140737488355328) : Byt (byV b l) l (byG b l e) :=
  .inr ⟨b, 0, l.length, l.length, (bV l).toArray, e, rfl, rfl, .full hb hl⟩

/-! ### Lists of things of several cells -/
def Elems {α : Type} (sz : Nat) (R : List Value → α → List Chunk → Prop) : List Value → List α → List Chunk → Prop
  | xs, [], g => xs = [] ∧ g = []
  | xs, a :: l, g => ∃ x xs' g1 g2, xs = x ++ xs' ∧ x.length = sz ∧ R x a g1 ∧ Elems sz R xs' l g2 ∧ g = g1 ++ g2
theorem Elems.nil {α : Type} {sz : Nat} {R : List Value → α → List Chunk → Prop} : Elems sz R [] [] [] := ⟨rfl, rfl⟩
theorem Elems.app {α : Type} {sz : Nat} {R : List Value → α → List Chunk → Prop} : ∀ {xs ys : List Value} {l m : List α} {g h : List Chunk}, Elems sz R xs l g → Elems sz R ys m h → Elems sz R (xs ++ ys) (l ++ m) (g ++ h)
  | xs, ys, [], m, g, h, ⟨h1, h2⟩, k => by subst h1; subst h2; simpa using k
  | xs, ys, a :: l, m, g, h, ⟨x, xs', g1, g2, h1, h2, h3, h4, h5⟩, k =>
    ⟨x, xs' ++ ys, g1, g2 ++ h, by rw [h1, List.append_assoc], h2, h3, Elems.app h4 k, by rw [h5, List.append_assoc]⟩
theorem Elems.one {α : Type} {sz : Nat} {R : List Value → α → List Chunk → Prop} {x : List Value} {a : α} {g : List Chunk} (hx : x.length = sz) (h : R x a g) : Elems sz R x [a] g :=
  ⟨x, [], g, [], by simp, hx, h, ⟨rfl, rfl⟩, by simp⟩
theorem Elems.len {α : Type} {sz : Nat} {R : List Value → α → List Chunk → Prop} : ∀ {xs : List Value} {l : List α} {g : List Chunk}, Elems sz R xs l g → xs.length = l.length * sz
  | xs, [], g, ⟨h1, _⟩ => by subst h1; simp
  | xs, a :: l, g, ⟨x, xs', g1, g2, h1, h2, h3, h4, h5⟩ => by rw [h1, List.length_append, h2, Elems.len h4, List.length_cons, Nat.succ_mul, Nat.add_comm]
theorem Elems.get {α : Type} {sz : Nat} {R : List Value → α → List Chunk → Prop} : ∀ {xs : List Value} {l : List α} {g : List Chunk}, Elems sz R xs l g → ∀ i (hi : i < l.length),
    ∃ pa x pb ga g1 gb, xs = pa ++ x ++ pb ∧ pa.length = i * sz ∧ x.length = sz ∧ R x l[i] g1 ∧ g = ga ++ g1 ++ gb ∧ Elems sz R pa (l.take i) ga ∧ Elems sz R pb (l.drop (i + 1)) gb
  | xs, [], g, _, i, hi => by simp at hi
  | xs, a :: l, g, ⟨x, xs', g1, g2, h1, h2, h3, h4, h5⟩, 0, hi => ⟨[], x, xs', [], g1, g2, by simpa using h1, by simp, h2, h3, by simpa using h5, ⟨rfl, rfl⟩, h4⟩
  | xs, a :: l, g, ⟨x, xs', g1, g2, h1, h2, h3, h4, h5⟩, i + 1, hi => by
    obtain ⟨pa, y, pb, ga, k1, gb, e1, e2, e3, e4, e5, e6, e7⟩ := Elems.get h4 i (by simpa using hi)
    refine ⟨x ++ pa, y, pb, g1 ++ ga, k1, gb, by rw [h1, e1]; simp, by rw [List.length_append, h2, e2, Nat.succ_mul, Nat.add_comm], e3, by simpa using e4, by rw [h5, e5]; simp, ?_, by simpa using e7⟩
    exact ⟨x, pa, g1, ga, rfl, h2, h3, e6, rfl⟩
theorem Elems.put {α : Type} {sz : Nat} {R : List Value → α → List Chunk → Prop} {pa x pb : List Value} {l : List α} {i : Nat} {a : α} {ga g1 gb : List Chunk} (hi : i < l.length) (h1 : Elems sz R pa (l.take i) ga) (h2 : x.length = sz) (h3 : R x a g1) (h4 : Elems sz R pb (l.drop (i + 1)) gb) :
    Elems sz R (pa ++ x ++ pb) (l.set i a) (ga ++ g1 ++ gb) := by
  rw [List.set_eq_take_append_cons_drop, if_pos hi]
  have := (h1.app (Elems.one h2 h3)).app h4
  simpa using this
theorem vec_get {cur : Array Value} {m o : Nat} {xs : List Value} {v : Value} (h : cur.toList.take m = xs) (hx : xs[o]? = some v) : cur[o]? = some v := by
  subst h
  rw [List.getElem?_take] at hx
  split at hx
  · simpa using hx
  · cases hx
theorem Vec.pos {e sz n : Nat} {v : Value} {xs : List Value} {g : List Chunk} (h : Vec e sz v n xs g) (hn : 0 < n) : ∃ b cap cur, v = .slice (some ⟨b, 0, none⟩) n cap ∧ g = [(b, .cells cur e (0, 0))] ∧ n ≤ cap ∧ cap ≤ maxLen ∧ cur.size = cap * sz ∧ cur.toList.take (n * sz) = xs := by
  rcases h with ⟨_, ⟨_, h0, _⟩ | h⟩
  · omega
  · exact h
theorem Vec.slice {e sz n : Nat} {v : Value} {xs : List Value} {g : List Chunk} (h : Vec e sz v n xs g) : ∃ p cap, v = .slice p n cap := by
  rcases h with ⟨_, ⟨rfl, rfl, _⟩ | ⟨b, cap, cur, rfl, _⟩⟩
  · exact ⟨_, _, rfl⟩
  · exact ⟨_, _, rfl⟩
theorem Vec.fresh {b e sz n : Nat} {cs : Array Value} {xs : List Value} (h1 : cs.toList = xs) (h2 : xs.length = n * sz) (h3 : n ≤ maxLen) : Vec e sz (.slice (some ⟨b, 0, none⟩) n n) n xs [(b, .cells cs e (0, 0))] :=
  ⟨h2, .inr ⟨b, n, cs, rfl, rfl, Nat.le_refl _, h3, by rw [← Array.length_toList, h1, h2], by rw [h1, ← h2]; exact List.take_length⟩⟩
end Go.Eng
