/- THE ENGINE, part 1: symbolic heaps (lists of blocks), frames, environments; the control rules. Nothing here speaks of one program. -/
import Derived.WalkKit
set_option linter.unusedVariables false
set_option linter.unusedSimpArgs false
namespace Go.Eng

abbrev Chunk := Nat × Obj
abbrev SH := List (List Chunk)
abbrev Env := List (Nat × Value)

def keys (l : List Chunk) : List Nat := l.map (fun c => c.1)

/-- The world bears these blocks, each its own. -/
def SatL (w : World) (l : List Chunk) : Prop := (keys l).Nodup ∧ ∀ c, c ∈ l → w.heap[c.1]? = some c.2

structure Frm (w w' : World) (K K' : List Nat) : Prop where
  os : w'.os = w.os
  tape : w'.tape = w.tape
  output : w'.output = w.output
  size : w.heap.size ≤ w'.heap.size
  block : ∀ k, k < w.heap.size → k ∉ K → w'.heap[k]? = w.heap[k]?
  keys : ∀ k, k ∈ K' → k ∈ K ∨ w.heap.size ≤ k

def St (w0 : World) (K0 : List Nat) (w : World) (S : SH) : Prop := SatL w S.flatten ∧ Frm w0 w K0 (keys S.flatten)

theorem SatL.lt {w : World} {l : List Chunk} (h : SatL w l) {k : Nat} (hk : k ∈ keys l) : k < w.heap.size := by
  obtain ⟨c, hc, rfl⟩ := List.mem_map.1 hk
  have := h.2 c hc
  rcases Nat.lt_or_ge c.1 w.heap.size with h' | h'
  · exact h'
  · rw [Array.getElem?_eq_none h'] at this; cases this

theorem SatL.perm {w : World} {l l' : List Chunk} (h : SatL w l) (p : l.Perm l') : SatL w l' :=
  ⟨(p.map _).nodup_iff.1 h.1, fun c hc => h.2 c (p.mem_iff.2 hc)⟩

theorem SatL.sub {w : World} {l l' : List Chunk} (h : SatL w l) (p : l'.Sublist l) : SatL w l' :=
  ⟨List.Nodup.sublist (p.map _) h.1, fun c hc => h.2 c (p.subset hc)⟩

theorem SatL.left {w : World} {l l' : List Chunk} (h : SatL w (l ++ l')) : SatL w l := h.sub (List.sublist_append_left _ _)
theorem SatL.right {w : World} {l l' : List Chunk} (h : SatL w (l ++ l')) : SatL w l' := h.sub (List.sublist_append_right _ _)

theorem Frm.refl (w : World) (K : List Nat) : Frm w w K K := ⟨rfl, rfl, rfl, Nat.le_refl _, fun _ _ _ => rfl, fun _ h => .inl h⟩

theorem Frm.perm {w w' : World} {K K' K'' : List Nat} (h : Frm w w' K K') (hs : ∀ k, k ∈ K'' → k ∈ K') : Frm w w' K K'' :=
  { h with keys := fun k hk => h.keys k (hs k hk) }

theorem Frm.trans {w0 w1 w2 : World} {K0 K1 K2 L L' : List Nat} (h : Frm w0 w1 K0 K1) (g : Frm w1 w2 L L') (hL : ∀ k, k ∈ L → k ∈ K1)
    (hK : ∀ k, k ∈ K2 → k ∈ K1 ∨ k ∈ L') : Frm w0 w2 K0 K2 where
  os := g.os.trans h.os
  tape := g.tape.trans h.tape
  output := g.output.trans h.output
  size := Nat.le_trans h.size g.size
  block := fun k hk hn => by
    have h1 : k ∉ L := fun hm => by
      rcases h.keys k (hL k hm) with h2 | h2
      · exact hn h2
      · omega
    exact (g.block k (Nat.lt_of_lt_of_le hk h.size) h1).trans (h.block k hk hn)
  keys := fun k hk => by
    have hs := h.size
    rcases hK k hk with h1 | h1
    · exact h.keys k h1
    · rcases g.keys k h1 with h2 | h2
      · exact h.keys k (hL k h2)
      · exact .inr (by omega)

theorem St.perm {w0 w : World} {K0 : List Nat} {S S' : SH} (h : St w0 K0 w S) (p : S.flatten.Perm S'.flatten) : St w0 K0 w S' :=
  ⟨h.1.perm p, h.2.perm fun _ hk => (p.map _).mem_iff.2 hk⟩

theorem St.sub {w0 w : World} {K0 : List Nat} {S S' : SH} (h : St w0 K0 w S) (p : S'.flatten.Sublist S.flatten) : St w0 K0 w S' :=
  ⟨h.1.sub p, h.2.perm fun _ hk => (p.map _).subset hk⟩

theorem keys_append (a b : List Chunk) : keys (a ++ b) = keys a ++ keys b := List.map_append

/-- THE FRAME RULE on states: a step that owns 'A' and leaves 'A'' , beside 'R'. -/
theorem St.frame {w0 w w' : World} {K0 : List Nat} {S A A' R : SH} (h : St w0 K0 w S) (p : S.flatten.Perm (A.flatten ++ R.flatten))
    (g : St w (keys A.flatten) w' A') : St w0 K0 w' (A' ++ R) := by
  have h1 := h.1.perm p
  have hk : ∀ k, k ∈ keys A.flatten → k ∈ keys S.flatten := fun k hk => (p.map _).mem_iff.2 (by
    show k ∈ keys (A.flatten ++ R.flatten)
    rw [keys_append]; exact List.mem_append_left _ hk)
  have hr : ∀ k, k ∈ keys R.flatten → k ∈ keys S.flatten := fun k hk => (p.map _).mem_iff.2 (by
    show k ∈ keys (A.flatten ++ R.flatten)
    rw [keys_append]; exact List.mem_append_right _ hk)
  have hd : ∀ k, k ∈ keys A.flatten → k ∉ keys R.flatten := by
    intro k h2 h3
    have := h1.1
    rw [keys_append] at this
    exact (List.nodup_append.1 this).2.2 k h2 k h3 rfl
  refine ⟨⟨?_, ?_⟩, h.2.trans g.2 hk ?_⟩
  · rw [List.flatten_append, keys_append, List.nodup_append]
    refine ⟨g.1.1, h1.right.1, fun k h2 k' h3 e => ?_⟩
    subst e
    rcases g.2.keys k h2 with h4 | h4
    · exact hd k h4 h3
    · have := h1.right.lt h3; omega
  · intro c hc
    rw [List.flatten_append] at hc
    rcases List.mem_append.1 hc with h2 | h2
    · exact g.1.2 c h2
    · have hm : c.1 ∈ keys R.flatten := List.mem_map.2 ⟨c, h2, rfl⟩
      rw [g.2.block c.1 (h1.right.lt hm) (fun h3 => hd _ h3 hm)]
      exact h1.right.2 c h2
  · intro k hk'
    rw [List.flatten_append, keys_append] at hk'
    rcases List.mem_append.1 hk' with h2 | h2
    · exact .inr h2
    · exact .inl (hr k h2)

/-! ### Environments -/
def gt : Env → Nat → Option Value
  | [], _ => none
  | (t, v) :: r, s => match Nat.beq t s with
    | true => some v
    | false => gt r s

def gv (e : Env) : Operand → Option Value
  | .tmp t => gt e t
  | .const v => some v
  | .global g => some (.pointer (some ⟨g, 0, none⟩))
  | .func f => some (.func (.func f) #[] #[])

def EnvOk (n : Nat) (e : Env) (a : Act) : Prop := a.defers = [] ∧ a.tmps.size = n ∧ ∀ t v, gt e t = some v → a.tmps[t]? = some v

theorem EnvOk.gv {n : Nat} {e : Env} {a : Act} (h : EnvOk n e a) {x : Operand} {v : Value} (hx : gv e x = some v) : a.eval x = v := by
  cases x with
  | tmp t =>
    have := h.2.2 t v hx
    simp [Act.eval, Array.getD_eq_getD_getElem?, this]
  | const u => simpa [Eng.gv, Act.eval] using hx
  | global g => simpa [Eng.gv, Act.eval] using hx
  | func f => simpa [Eng.gv, Act.eval] using hx

theorem gt_append (a b : Env) (s : Nat) : gt (a ++ b) s = (gt a s).or (gt b s) := by
  induction a with
  | nil => simp [gt]
  | cons p r ih =>
    obtain ⟨pt, pv⟩ := p
    simp only [List.cons_append, gt]
    split <;> simp [ih]

theorem EnvOk.sub {n : Nat} {e e' : Env} {a : Act} (h : EnvOk n e a) (hs : ∀ t v, gt e' t = some v → gt e t = some v) : EnvOk n e' a :=
  ⟨h.1, h.2.1, fun t v ht => h.2.2 t v (hs t v ht)⟩

theorem EnvOk.put {n : Nat} {e e' : Env} {a : Act} (h : EnvOk n e a) {d : Nat} {v : Value} (hd : Nat.blt d n = true)
    (he : ∀ t u, gt e' t = some u → (t = d ∧ u = v) ∨ (t ≠ d ∧ gt e t = some u)) : EnvOk n e' (a.put (some d) v) := by
  have hd' : d < a.tmps.size := by rw [h.2.1]; exact Nat.lt_of_lt_of_eq (Nat.le_of_ble_eq_true hd) rfl
  refine ⟨h.1, by simpa [Act.put] using h.2.1, fun t u ht => ?_⟩
  rcases he t u ht with ⟨rfl, rfl⟩ | ⟨hne, h2⟩
  · simp [Act.put, hd']
  · have := h.2.2 t u h2
    simp [Act.put, Array.getElem?_setIfInBounds_ne (Ne.symm hne), this]

theorem EnvOk.putT {n : Nat} {T L : Env} {a : Act} (h : EnvOk n (T ++ L) a) {d : Nat} (v : Value) (hd : Nat.blt d n = true) :
    EnvOk n (((d, v) :: T) ++ L) (a.put (some d) v) :=
  h.put hd fun t u ht => by
    simp only [List.cons_append, gt] at ht
    split at ht
    · rename_i hb; exact .inl ⟨(Nat.eq_of_beq_eq_true hb).symm, (Option.some.inj ht).symm⟩
    · rename_i hb; exact .inr ⟨fun e => (by subst e; rw [Nat.beq_refl] at hb; cases hb), ht⟩

theorem EnvOk.putL {n : Nat} {T L : Env} {a : Act} (h : EnvOk n (T ++ L) a) {d : Nat} (v : Value) (hd : Nat.blt d n = true) (hT : gt T d = none) :
    EnvOk n (T ++ ((d, v) :: L)) (a.put (some d) v) :=
  h.put hd fun t u ht => by
    rw [gt_append] at ht ⊢
    cases hg : gt T t with
    | some x =>
      rw [hg] at ht
      exact .inr ⟨fun e => (by rw [e, hT] at hg; cases hg), by simpa [hg] using ht⟩
    | none =>
      rw [hg] at ht
      simp only [Option.none_or, gt] at ht ⊢
      split at ht
      · rename_i hb; exact .inl ⟨(Nat.eq_of_beq_eq_true hb).symm, (Option.some.inj ht).symm⟩
      · rename_i hb; exact .inr ⟨fun e => (by subst e; rw [Nat.beq_refl] at hb; cases hb), by simpa [hg] using ht⟩

/-- no key of T stands in L -/
def apartB : Env → Env → Bool
  | [], _ => true
  | p :: r, L => match gt L p.1 with
    | none => apartB r L
    | some _ => false

theorem apartB_spec {T L : Env} (h : apartB T L = true) : ∀ t v, gt L t = some v → gt T t = none := by
  induction T with
  | nil => intro t v _; rfl
  | cons p r ih =>
    obtain ⟨pt, pv⟩ := p
    intro t v ht
    simp only [apartB] at h
    split at h
    · rename_i hn
      simp only [gt]
      split
      · rename_i hb
        have := Nat.eq_of_beq_eq_true hb
        rw [this, ht] at hn; exact nomatch hn
      · exact ih h t v ht
    · exact nomatch h


theorem EnvOk.drop {n : Nat} {T L : Env} {a : Act} (h : EnvOk n (T ++ L) a) (hT : apartB T L = true) : EnvOk n L a :=
  h.sub fun t v ht => by rw [gt_append, apartB_spec hT t v ht]; simpa using ht

theorem EnvOk.drop1 {n : Nat} {T L : Env} {a : Act} (h : EnvOk n (T ++ L) a) (hT : apartB T L = true) {s : Nat} {v : Value} (hs : gt T s = some v) : EnvOk n ((s, v) :: L) a :=
  h.sub fun t u ht => by
    simp only [gt] at ht
    split at ht
    · rename_i hb
      have hst : s = t := Nat.eq_of_beq_eq_true hb
      subst hst
      rw [gt_append, hs]; simpa using ht
    · rw [gt_append, apartB_spec hT t u ht]; simpa using ht

theorem EnvOk.drop2 {n : Nat} {T L : Env} {a : Act} (h : EnvOk n (T ++ L) a) (hT : apartB T L = true) {s s' : Nat} {v v' : Value} (hs : gt T s = some v) (hs' : gt T s' = some v') :
    EnvOk n ((s, v) :: (s', v') :: L) a :=
  h.sub fun t u ht => by
    simp only [gt] at ht
    split at ht
    · rename_i hb
      have hst : s = t := Nat.eq_of_beq_eq_true hb
      subst hst
      rw [gt_append, hs]; simpa using ht
    · split at ht
      · rename_i hb
        have hst : s' = t := Nat.eq_of_beq_eq_true hb
        subst hst
        rw [gt_append, hs']; simpa using ht
      · rw [gt_append, apartB_spec hT t u ht]; simpa using ht

/-- the kit's loop rule with a measure that stands in no slot -/
theorem wp_loop_rel {P : Program} {c : Code} {Q : Exit → Act → World → Prop} (I : Act → World → Nat → Prop) {a : Act} {w : World} (m : Nat) (h₀ : I a w m)
    (round : ∀ a w m, I a w m → c.wp P (Exit.then (fun a' w' => ∃ m', m' < m ∧ I a' w' m') Q) a w) : (Code.loop c).wp P Q a w := by
  intro b k cs
  have key : ∀ n a w, I a w n →
      ∃ e a' w', Q e a' w' ∧ Arrives P (lone (b.at a (.code c :: .inLoop c :: k)) cs w) b k cs e a' w' := by
    intro n
    induction n using Nat.strongRecOn with
    | _ n ih =>
      intro a w hI
      obtain ⟨e, a₁, w₁, hq, harr⟩ := round a w n hI b (.inLoop c :: k) cs
      cases e with
      | normal =>
        obtain ⟨m', hlt, hI₁⟩ := hq
        obtain ⟨e₂, a₂, w₂, hq₂, harr₂⟩ := ih m' hlt a₁ w₁ hI₁
        exact ⟨e₂, a₂, w₂, hq₂, .of_steps (Steps.trans harr (.one step_inLoop)) harr₂⟩
      | exit id => exact ⟨_, a₁, w₁, hq, .pass (x := .inLoop c) rfl (fun _ _ => .inl (by simp)) harr⟩
      | goto l => exact ⟨_, a₁, w₁, hq, .pass (x := .inLoop c) rfl (fun _ _ => .inl (by simp)) harr⟩
      | ret => exact ⟨_, a₁, w₁, hq, .pass (x := .inLoop c) rfl (fun _ _ => .inl (by simp)) harr⟩
      | panic ch => exact ⟨_, a₁, w₁, hq, .pass (x := .inLoop c) rfl (fun _ _ => .inl (by simp)) harr⟩
      | outgrown => exact ⟨_, a₁, w₁, hq, .pass (x := .inLoop c) rfl (fun _ _ => .inl (by simp)) harr⟩
  obtain ⟨e, a', w', hq, harr⟩ := key m a w h₀
  exact ⟨e, a', w', hq, .of_steps (.one step_loop) harr⟩

/-! ### Judgements -/
structure Cx where
  P : Program
  n : Nat
  w0 : World
  K0 : List Nat

def PostQ (c : Cx) (Q : Exit → Env → SH → Prop) : Exit → Act → World → Prop := fun ex a w => ∃ e S, EnvOk c.n e a ∧ St c.w0 c.K0 w S ∧ Q ex e S

def OkC (c : Cx) (k : Code) (e : Env) (S : SH) (Q : Exit → Env → SH → Prop) : Prop :=
  ∀ a w, EnvOk c.n e a → St c.w0 c.K0 w S → k.wp c.P (PostQ c Q) a w

def PostO (c : Cx) (Q : Env → SH → Prop) (a : Act) (w : World) : Prop := ∃ e S, EnvOk c.n e a ∧ St c.w0 c.K0 w S ∧ Q e S

def OkO (c : Cx) (all : Array Oper) (l : List Oper) (T L : Env) (S : SH) (Q : Env → SH → Prop) : Prop :=
  ∀ Q' : Exit → Act → World → Prop, (∀ a w, PostO c Q a w → Q' .normal a w) → ∀ a w, EnvOk c.n (T ++ L) a → St c.w0 c.K0 w S → wpList c.P all Q' l a w

/-- the triple of a function -/
def Trip (P : Program) (f : FuncId) (args : Array Value) (S : SH) (R : Value → SH → Prop) : Prop :=
  ∀ w, SatL w S.flatten → Calls P f args w fun e w' => ∃ v S', e = .returned v ∧ R v S' ∧ St w (keys S.flatten) w' S'

section
variable {c : Cx} {e L T : Env} {S : SH} {Q : Exit → Env → SH → Prop}

theorem c_seq {x y : Code} (h : OkC c x e S (fun ex e' S' => match ex with | .normal => OkC c y e' S' Q | _ => Q ex e' S')) : OkC c (.seq x y) e S Q :=
  fun a w he hs => wp_seq (Code.wp_mono (fun ex a' w' ⟨e', S', h1, h2, h3⟩ => by
    cases ex
    case normal => exact h3 a' w' h1 h2
    all_goals exact ⟨e', S', h1, h2, h3⟩) (h a w he hs))

theorem c_block {id : Nat} {x : Code} (h : OkC c x e S (fun ex e' S' => match ex with | .exit i => (if i = id then Q .normal e' S' else Q (.exit i) e' S') | _ => Q ex e' S')) : OkC c (.block id x) e S Q :=
  fun a w he hs => wp_block (Code.wp_mono (fun ex a' w' ⟨e', S', h1, h2, h3⟩ => by
    cases ex
    case exit i =>
      simp only [Exit.inBlock] at h3 ⊢
      split
      · rename_i hi; rw [if_pos hi] at h3; exact ⟨e', S', h1, h2, h3⟩
      · rename_i hi; rw [if_neg hi] at h3; exact ⟨e', S', h1, h2, h3⟩
    all_goals exact ⟨e', S', h1, h2, h3⟩) (h a w he hs))

theorem c_skip (h : Q .normal e S) : OkC c .skip e S Q := fun a w he hs => wp_skip ⟨e, S, he, hs, h⟩
theorem c_exit {id : Nat} (h : Q (.exit id) e S) : OkC c (.exit id) e S Q := fun a w he hs => wp_exit ⟨e, S, he, hs, h⟩
theorem c_ret (h : Q .ret e S) : OkC c .ret e S Q := fun a w he hs => wp_ret ⟨e, S, he, hs, h⟩
theorem c_cond {x : Operand} {p q : Code} {t : Bool} (hx : gv e x = some (.bool t)) (h1 : t = true → OkC c p e S Q) (h2 : t = false → OkC c q e S Q) : OkC c (.cond x p q) e S Q :=
  fun a w he hs => wp_cond_split (he.gv hx) (fun ht => h1 ht a w he hs) (fun ht => h2 ht a w he hs)
theorem c_mono {x : Code} {Q' : Exit → Env → SH → Prop} (h : OkC c x e S Q') (hq : ∀ ex e' S', Q' ex e' S' → Q ex e' S') : OkC c x e S Q :=
  fun a w he hs => Code.wp_mono (fun ex a' w' ⟨e', S', h1, h2, h3⟩ => ⟨e', S', h1, h2, hq _ _ _ h3⟩) (h a w he hs)
theorem c_perm {x : Code} {S' : SH} (p : S.flatten.Perm S'.flatten) (h : OkC c x e S' Q) : OkC c x e S Q :=
  fun a w he hs => h a w he (hs.perm p)
theorem c_env {x : Code} {e' : Env} (p : ∀ t v, gt e' t = some v → gt e t = some v) (h : OkC c x e' S Q) : OkC c x e S Q :=
  fun a w he hs => h a w (he.sub p) hs
theorem c_region {id : Nat} {l : List Oper} (h : OkO c l.toArray l [] e S (Q .normal)) : OkC c (.region id l.toArray false) e S Q :=
  fun a w he hs => wp_region_lit (h _ (fun _ _ ⟨e', S', h1, h2, h3⟩ => ⟨e', S', h1, h2, h3⟩) a w he hs)

/-- a loop, its states told by a parameter -/
theorem c_loop {x : Code} {ι : Type} (E : ι → Env) (H : ι → SH) (I : ι → Prop) (μ : ι → Nat) (i0 : ι) (h0 : I i0) (he0 : ∀ t v, gt (E i0) t = some v → gt e t = some v) (hS0 : S.flatten.Perm (H i0).flatten)
    (h : ∀ i, I i → OkC c x (E i) (H i) (fun ex e' S' => match ex with
      | .normal => ∃ j, I j ∧ μ j < μ i ∧ (∀ t v, gt (E j) t = some v → gt e' t = some v) ∧ S'.flatten.Perm (H j).flatten
      | _ => Q ex e' S')) : OkC c (.loop x) e S Q :=
  fun a w he hs => by
    refine wp_loop_rel (fun a w m => ∃ i, I i ∧ μ i = m ∧ EnvOk c.n (E i) a ∧ St c.w0 c.K0 w (H i)) (μ i0) ⟨i0, h0, rfl, he.sub he0, hs.perm hS0⟩ ?_
    rintro a w m ⟨i, hi, rfl, h1, h2⟩
    refine Code.wp_mono (fun ex a' w' ⟨e', S', h3, h4, h5⟩ => ?_) (h i hi a w h1 h2)
    cases ex
    case normal => obtain ⟨j, hj, hm, hE, hp⟩ := h5; exact ⟨μ j, hm, j, hj, rfl, h3.sub hE, h4.perm hp⟩
    all_goals exact ⟨e', S', h3, h4, h5⟩
end
end Go.Eng
