/- THE ENGINE, part 5: a region that draws its order. An operation that is SOFT (it yields one value whatever the world, or, a load, in every world that keeps the blocks of the region's start)
   may be run as soon as it is ready; only the others are run in every order that the edges allow. -/
import Derived.Test.Qxb6500350aGreatEngX
import Derived.OrdersHeld
set_option linter.unusedVariables false
set_option linter.unusedSimpArgs false
namespace Go.Eng

def NP (Z : Act → World → Prop) : Exit → Act → World → Prop
  | .normal, a, w => Z a w
  | _, _, _ => False
def isLoad : Op → Bool
  | .load _ _ => true
  | .convert _ _ _ => true
  | _ => false
def Keep (Ck : List Chunk) (w : World) : Prop := ∀ x, x ∈ Ck → w.heap[x.1]? = some x.2

def SoftAt (P : Program) (ops : Array Oper) (Ck : List Chunk) (o : Oper) (v : Value) (a : Act) : Prop :=
  (Region.wanted o (yielded ops a.tmps) = true ∧ ∀ w, (isLoad o.op = true → Keep Ck w) → (execOp a.eval o).run P w = .ok (.value v) w) ∨ (Region.wanted o (yielded ops a.tmps) = false ∧ v = undef)

def wpAnyC (P : Program) (ops : Array Oper) (ph : Array Bool) (Ck : List Chunk) (Z : Act → World → Prop) : Nat → Array Bool → Act → World → Prop
  | 0, listed, a, w => Region.ready .any ops listed = [] ∧ Z a w
  | f + 1, listed, a, w => (Region.ready .any ops listed = [] → Z a w) ∧
    ∀ j, j ∈ Region.ready .any ops listed → wpOp P ops (NP Z) j (fun a' w' => (ph.getD j false = true → Keep Ck w → Keep Ck w') ∧ wpAnyC P ops ph Ck Z f (listed.setIfInBounds j true) a' w') a w

section
variable {P : Program} {ops : Array Oper} {ph : Array Bool} {Ck : List Chunk} {Z : Act → World → Prop}

theorem Oper.wp_np {o : Oper} {a : Act} {w : World} {K K' : Act → World → Prop} {Q' : Exit → Act → World → Prop} (h : ∀ a w, K a w → K' a w) (hh : o.wp P a w K (NP Z)) : o.wp P a w K' Q' := by
  unfold Oper.wp at *
  generalize (execOp a.eval o).run P w = r at *
  cases r with
  | ok n w' =>
    cases n <;> simp only [Oper.upon] at hh ⊢
    case enter f args => exact Calls.mono hh (fun e w'' he => by
      cases e
      case returned v => exact h _ _ he
      case panicked c => exact he.elim
      case outgrown => obtain ⟨_, _, h0⟩ := he; exact h0.elim)
    case row r args => exact Rows.mono hh (fun _ _ he => h _ _ he)
    all_goals exact h _ _ hh
  | halt x w' =>
    cases x <;> simp only [Oper.upon] at hh ⊢
    exact hh.elim

theorem wpOp_np {i : Nat} {a : Act} {w : World} {K K' : Act → World → Prop} {Q' : Exit → Act → World → Prop} (h : ∀ a w, K a w → K' a w) (hh : wpOp P ops (NP Z) i K a w) : wpOp P ops Q' i K' a w := by
  unfold wpOp at *
  split
  · rename_i ho; simp only [ho] at hh; exact h _ _ hh
  · rename_i o ho
    simp only [ho] at hh
    split
    · rename_i hw
      simp only [hw, if_true] at hh
      rcases hh with hh | ⟨_, _, _, h0⟩
      · exact .inl (Oper.wp_np h hh)
      · exact h0.elim
    · rename_i hw; simp only [hw] at hh; exact h _ _ hh

theorem wpAny_of_C {Q' : Exit → Act → World → Prop} (hq : ∀ a w, Z a w → Q' .normal a w) : ∀ (f : Nat) (listed : Array Bool) (a : Act) (w : World), wpAnyC P ops ph Ck Z f listed a w → wpAny P .any ops Q' f listed a w
  | 0, _, _, _, h => ⟨h.1, hq _ _ h.2⟩
  | f + 1, _, _, _, h => ⟨fun h0 => hq _ _ (h.1 h0), fun j hj => wpOp_np (fun a' w' h1 => wpAny_of_C hq f _ a' w' h1.2) (h.2 j hj)⟩

theorem SoftAt.keep {oi oj : Oper} {v : Value} {a : Act} (hsi : ∀ cs b, oi.op ≠ .select cs b) (h3 : ∀ d, oj.dst = some d → d ∉ oi.looksAt ops) (hy : SoftAt P ops Ck oi v a) (u : Value) : SoftAt P ops Ck oi v (a.put oj.dst u) := by
  unfold SoftAt at *
  rw [wanted_put oi a oj.dst u h3, execOp_put oi hsi a oj.dst u h3]
  exact hy

theorem wpOp_swap {i j : Nat} {oi oj : Oper} {v : Value} (hj : ops[j]? = some oj) (hap : oi.apart ops oj = true) (hsi : ∀ cs b, oi.op ≠ .select cs b) (hsj : ∀ cs b, oj.op ≠ .select cs b)
    {K : Act → World → Prop} {a : Act} {w : World} (hy : SoftAt P ops Ck oi v a) (h : wpOp P ops (NP Z) j K (a.put oi.dst v) w) :
    wpOp P ops (NP Z) j (fun a' w' => SoftAt P ops Ck oi v a' ∧ K (a'.put oi.dst v) w') a w := by
  obtain ⟨h1, h2, h3⟩ := Oper.apart_spec hap
  unfold wpOp at *
  simp only [hj] at *
  rw [wanted_put oj a oi.dst v h1] at h
  split
  · rename_i hw
    simp only [hw, if_true] at h
    rcases h with h | ⟨_, _, _, h0⟩
    · left
      unfold Oper.wp at *
      rw [execOp_put oj hsj a oi.dst v h1] at h
      generalize (execOp a.eval oj).run P w = r at *
      cases r with
      | ok n w' =>
        cases n <;> simp only [Oper.upon] at h ⊢
        case value u => exact ⟨hy.keep hsi h3 u, by rw [← Act.put_comm a v u h2]; exact h⟩
        case skip => exact ⟨hy.keep hsi h3 _, by rw [← Act.put_comm a v undef h2]; exact h⟩
        case enter f args => exact Calls.mono h (fun e w'' he => by
          cases e
          case returned u => exact ⟨hy.keep hsi h3 u, by rw [← Act.put_comm a v u h2]; exact he⟩
          case panicked c => exact he
          case outgrown => exact he)
        case row r args => exact Rows.mono h (fun u w'' he => ⟨hy.keep hsi h3 u, by rw [← Act.put_comm a v u h2]; exact he⟩)
        case defer dd =>
          refine ⟨?_, ?_⟩
          · have h5 : SoftAt P ops Ck oi v ({ a with defers := dd :: a.defers } : Act) := by
              unfold SoftAt at *; exact hy
            exact h5.keep hsi h3 undef
          · rw [Act.put_comm _ undef v (fun d hd hd' => h2 d hd' hd), ← Act.put_defers]
            exact h
      | halt x w' => cases x <;> simp only [Oper.upon] at h ⊢; exact h
    · exact h0.elim
  · rename_i hw
    simp only [hw] at h
    exact ⟨hy.keep hsi h3 _, by rw [← Act.put_comm a v undef h2]; exact h⟩

theorem wpOp_keep {j : Nat} {K K' : Act → World → Prop} {a : Act} {w : World} (h : ∀ a w, K a w → K' a w) (hh : wpOp P ops (NP Z) j K a w) : wpOp P ops (NP Z) j K' a w := wpOp_np h hh

theorem SoftAt.wpOp {i : Nat} {oi : Oper} {v : Value} {a : Act} {w : World} (hi : ops[i]? = some oi) (hy : SoftAt P ops Ck oi v a) (hk : isLoad oi.op = true → Keep Ck w) {K : Act → World → Prop} (h : K (a.put oi.dst v) w) : Go.wpOp P ops (NP Z) i K a w := by
  unfold Go.wpOp
  simp only [hi]
  rcases hy with ⟨hw, hv⟩ | ⟨hw, rfl⟩
  · rw [if_pos hw]; left; rw [Oper.wp, hv w hk, Oper.upon_value]; exact h
  · rw [if_neg (by simp [hw])]; exact h

theorem wpAnyC_first {i : Nat} {oi : Oper} {v : Value} {R listed0 : Array Bool} (hi : ops[i]? = some oi) (hsel : ∀ (j : Nat) (o : Oper) cs b, ops[j]? = some o → o.op ≠ .select cs b)
    (hR : ∀ k ok, ops[k]? = some ok → k ≠ i → (∀ e ∈ ok.after, Region.binds .any e = true → R.getD e.on false = true) → R.getD k false = true)
    (hcond : ∀ j oj, ops[j]? = some oj → j ≠ i → R.getD j false = true → listed0.getD j true = false → oi.apart ops oj = true ∧ (isLoad oi.op = true → ph.getD j false = true)) :
    ∀ (fuel : Nat) (listed : Array Bool) (a : Act) (w : World), (∀ k, listed.getD k false = true → R.getD k false = true) → (∀ k, listed.getD k true = false → listed0.getD k true = false) →
      i ∈ Region.ready .any ops listed → SoftAt P ops Ck oi v a → (isLoad oi.op = true → Keep Ck w) →
      wpAnyC P ops ph Ck Z fuel (listed.setIfInBounds i true) (a.put oi.dst v) w → wpAnyC P ops ph Ck Z (fuel + 1) listed a w := by
  intro fuel
  induction fuel with
  | zero =>
    intro listed a w hsub hl0 hr hy hk H
    refine ⟨fun h => (by rw [h] at hr; cases hr), fun j hj => ?_⟩
    by_cases hji : j = i
    · subst hji; exact hy.wpOp hi hk ⟨fun _ h => h, H⟩
    · have := ready_mono hj hji
      rw [H.1] at this
      cases this
  | succ fuel ih =>
    intro listed a w hsub hl0 hr hy hk H
    refine ⟨fun h => (by rw [h] at hr; cases hr), fun j hj => ?_⟩
    by_cases hji : j = i
    · subst hji; exact hy.wpOp hi hk ⟨fun _ h => h, H⟩
    · have h1 := H.2 j (ready_mono hj hji)
      obtain ⟨hjun, oj, hoj, hall⟩ := mem_ready.1 hj
      have hRj : R.getD j false = true := hR j oj hoj hji (fun e he hb => hsub _ (hall e he hb))
      obtain ⟨hap, hph⟩ := hcond j oj hoj hji hRj (hl0 j hjun)
      have h2 := wpOp_swap (i := i) hoj hap (fun cs b => hsel i oi cs b hi) (fun cs b => hsel j oj cs b hoj) hy h1
      refine wpOp_keep (fun a' w' h3 => ?_) h2
      obtain ⟨hs, hkk, h4⟩ := h3
      have hk' : isLoad oi.op = true → Keep Ck w' := fun hl => hkk (hph hl) (hk hl)
      refine ⟨hkk, ih (listed.setIfInBounds j true) a' w' ?_ ?_ (ready_mono hr (Ne.symm hji)) hs hk' ?_⟩
      · intro k hkl
        by_cases hjk : j = k
        · subst hjk; exact hRj
        · rw [getD_set_ne false hjk] at hkl; exact hsub k hkl
      · intro k hkl
        by_cases hjk : j = k
        · subst hjk; exact hl0 _ hjun
        · rw [getD_set_ne true hjk] at hkl; exact hl0 k hkl
      · rw [Array.setIfInBounds_comm _ _ hji]
        exact h4
end

/-! The closed tests of one region -/
def depsIn (R : Array Bool) (o : Oper) : Bool := o.after.all fun e => !Region.binds .any e || R.getD e.on false
/-- all that can run before i: a set closed under 'all that it waits for is in' -/
def grow (ops : Array Oper) (i : Nat) : Nat → Array Bool → Array Bool
  | 0, R => R
  | f + 1, R => grow ops i f ((List.range ops.size).foldl (fun R k => if k == i then R else match ops[k]? with
      | some o => if depsIn R o then R.setIfInBounds k true else R
      | none => R) R)
def closedB (ops : Array Oper) (i : Nat) (R : Array Bool) : Bool := (List.range ops.size).all fun k => k == i || match ops[k]? with
  | some o => !depsIn R o || R.getD k false
  | none => true
def condB (ops : Array Oper) (ph listed : Array Bool) (i : Nat) (R : Array Bool) : Bool :=
  match ops[i]? with
  | some oi => (List.range ops.size).all fun j => j == i || !R.getD j false || listed.getD j true || match ops[j]? with
    | some oj => oi.apart ops oj && (!isLoad oi.op || ph.getD j false)
    | none => true
  | none => false
def subB (listed R : Array Bool) : Bool := (List.range listed.size).all fun k => !listed.getD k false || R.getD k false
def softB (ops : Array Oper) (ph listed : Array Bool) (i : Nat) : Bool :=
  let R := grow ops i 3 listed
  (Region.ready .any ops listed).contains i && closedB ops i R && condB ops ph listed i R && subB listed R && Region.noSelect ops
def hardB (ops : Array Oper) (listed : Array Bool) (l : List Nat) : Bool := Region.ready .any ops listed == l

theorem softB_spec {P : Program} {ops : Array Oper} {ph listed : Array Bool} {Ck : List Chunk} {Z : Act → World → Prop} {i fuel : Nat} {oi : Oper} {v : Value} {a : Act} {w : World} (hi : ops[i]? = some oi) (h : softB ops ph listed i = true)
    (hy : SoftAt P ops Ck oi v a) (hk : isLoad oi.op = true → Keep Ck w) (H : wpAnyC P ops ph Ck Z fuel (listed.setIfInBounds i true) (a.put oi.dst v) w) : wpAnyC P ops ph Ck Z (fuel + 1) listed a w := by
  simp only [softB, Bool.and_eq_true] at h
  obtain ⟨⟨⟨⟨h1, h2⟩, h3⟩, h4⟩, h5⟩ := h
  generalize grow ops i 3 listed = R at *
  refine wpAnyC_first (R := R) (listed0 := listed) hi (Region.noSelect_spec h5) ?_ ?_ fuel listed a w ?_ (fun _ h => h) (by simpa using h1) hy hk H
  · intro k ok hok hne hall
    simp only [closedB, List.all_eq_true, List.mem_range] at h2
    have := h2 k (Array.getElem?_eq_some_iff.1 hok).1
    simp only [hok, Bool.or_eq_true, beq_iff_eq, hne, false_or] at this
    rcases this with h6 | h6
    · exfalso
      have h7 : depsIn R ok = true := by
        unfold depsIn
        rw [Array.all_eq_true_iff_forall_mem]
        intro e he
        by_cases hb : Region.binds .any e = true
        · simp only [hb, Bool.not_true, Bool.false_or]; exact hall e he hb
        · simp [hb]
      rw [h7] at h6; cases h6
    · exact h6
  · intro j oj hoj hne hRj hlj
    simp only [condB, hi, List.all_eq_true, List.mem_range] at h3
    have := h3 j (Array.getElem?_eq_some_iff.1 hoj).1
    simp only [hoj, Bool.or_eq_true, beq_iff_eq, hne, hRj, hlj, Bool.not_true, Bool.false_eq_true, false_or, Bool.and_eq_true, Bool.not_eq_true'] at this
    refine ⟨this.1, fun hl => ?_⟩
    rcases this.2 with h6 | h6
    · rw [hl] at h6; cases h6
    · exact h6
  · intro k hk
    simp only [subB, List.all_eq_true, List.mem_range] at h4
    by_cases hlt : k < listed.size
    · have := h4 k hlt
      simp only [hk, Bool.not_true, Bool.false_or] at this
      exact this
    · simp [Array.getElem?_eq_none (Nat.le_of_not_lt hlt)] at hk

/-! The judgement -/
structure Dx where
  ops : Array Oper
  ph : Array Bool
  Ck : List Chunk

def OkD (c : Cx) (d : Dx) (f : Nat) (listed : Array Bool) (T L : Env) (S : SH) (Q : Env → SH → Prop) : Prop :=
  ∀ a w, EnvOk c.n (T ++ L) a → St c.w0 c.K0 w S → wpAnyC c.P d.ops d.ph d.Ck (PostO c Q) f listed a w

section
variable {c : Cx} {d : Dx} {f : Nat} {listed : Array Bool} {T L : Env} {S : SH} {Q : Env → SH → Prop} {ty : TypeId} {pos : String} {af : Array Edge}

theorem c_draw {Q : Exit → Env → SH → Prop} {id n : Nat} {l : List Oper} {e : Env} (ph : Array Bool) (hm : c.P.follows .mixedOrders = true) (hn : l.length = n)
    (h : OkD c ⟨l.toArray, ph, S.flatten⟩ n (Array.replicate n false) [] e S (Q .normal)) : OkC c (.region id l.toArray true) e S Q := by
  intro a w he hs
  refine wp_region_any hm ?_
  subst hn
  have h1 := h a { w with drawn := w.drawn + 1 } he (hs.drawn rfl rfl rfl rfl)
  have h2 := wpAny_of_C (Q' := PostQ c Q) (fun a w ⟨e', S', h3, h4, h5⟩ => ⟨e', S', h3, h4, h5⟩) _ _ _ _ h1
  simpa using h2

theorem d_nil0 (hr : hardB d.ops listed [] = true) (hT : apartB T L = true) (h : Q L S) : OkD c d 0 listed T L S Q :=
  fun a w he hs => ⟨by simpa [hardB] using hr, ⟨L, S, he.drop hT, hs, h⟩⟩
theorem d_nil1 (s : Nat) {v : Value} (hr : hardB d.ops listed [] = true) (hs : gt T s = some v) (hT : apartB T L = true) (h : Q ((s, v) :: L) S) : OkD c d 0 listed T L S Q :=
  fun a w he hst => ⟨by simpa [hardB] using hr, ⟨_, S, he.drop1 hT hs, hst, h⟩⟩
theorem d_nil2 (s s' : Nat) {v v' : Value} (hr : hardB d.ops listed [] = true) (hs : gt T s = some v) (hs' : gt T s' = some v') (hT : apartB T L = true) (h : Q ((s, v) :: (s', v') :: L) S) : OkD c d 0 listed T L S Q :=
  fun a w he hst => ⟨by simpa [hardB] using hr, ⟨_, S, he.drop2 hT hs hs', hst, h⟩⟩

/-- a soft operation that is no load, into a temporary -/
theorem d_T (i : Nat) {s : Nat} {op : Op} {v : Value} (hi : d.ops[i]? = some ⟨some s, op, ty, pos, af, none⟩) (hb : softB d.ops d.ph listed i = true) (hl : isLoad op = false) (hy : Yields c.P c.n (T ++ L) op ty v) (hd : Nat.blt s c.n = true)
    (h : OkD c d f (listed.setIfInBounds i true) ((s, v) :: T) L S Q) : OkD c d (f + 1) listed T L S Q := by
  intro a w he hs
  refine softB_spec (v := v) hi hb (.inl ⟨by simp [Region.wanted], fun w' _ => hy a w' _ _ _ he⟩) (fun h0 => ?_) (h _ _ (he.putT v hd) hs)
  simp [hl] at h0
/-- the same into a local -/
theorem d_L (i : Nat) {s : Nat} {op : Op} {v : Value} (hi : d.ops[i]? = some ⟨some s, op, ty, pos, af, none⟩) (hb : softB d.ops d.ph listed i = true) (hl : isLoad op = false) (hy : Yields c.P c.n (T ++ L) op ty v) (hd : Nat.blt s c.n = true) (hT : gt T s = none)
    (h : OkD c d f (listed.setIfInBounds i true) T ((s, v) :: L) S Q) : OkD c d (f + 1) listed T L S Q := by
  intro a w he hs
  refine softB_spec (v := v) hi hb (.inl ⟨by simp [Region.wanted], fun w' _ => hy a w' _ _ _ he⟩) (fun h0 => ?_) (h _ _ (he.putL v hd hT) hs)
  simp [hl] at h0
/-- a conversion -/
theorem d_cv (i : Nat) {s : Nat} {op : Op} {v : Value} (hi : d.ops[i]? = some ⟨some s, op, ty, pos, af, none⟩) (hb : softB d.ops d.ph listed i = true) (hk : ∀ x, x ∈ d.Ck → x ∈ S.flatten) (hy : Yields c.P c.n (T ++ L) op ty v) (hd : Nat.blt s c.n = true)
    (h : OkD c d f (listed.setIfInBounds i true) ((s, v) :: T) L S Q) : OkD c d (f + 1) listed T L S Q := by
  intro a w he hs
  exact softB_spec (v := v) hi hb (.inl ⟨by simp [Region.wanted], fun w' _ => hy a w' _ _ _ he⟩) (fun _ x hx => hs.1.2 x (hk x hx)) (h _ _ (he.putT v hd) hs)
theorem d_cvg (i : Nat) {s s2 j : Nat} {b : Bool} {oj : Oper} {op : Op} {v : Value} (hi : d.ops[i]? = some ⟨some s, op, ty, pos, af, some (j, b)⟩) (hj : d.ops[j]? = some oj) (hdj : oj.dst = some s2) (hv : gt (T ++ L) s2 = some (.bool b)) (hb : softB d.ops d.ph listed i = true) (hk : ∀ x, x ∈ d.Ck → x ∈ S.flatten)
    (hy : Yields c.P c.n (T ++ L) op ty v) (hd : Nat.blt s c.n = true) (h : OkD c d f (listed.setIfInBounds i true) ((s, v) :: T) L S Q) : OkD c d (f + 1) listed T L S Q := by
  intro a w he hs
  have hg : ∀ x, execOp x ⟨some s, op, ty, pos, af, some (j, b)⟩ = execOp x ⟨some s, op, ty, pos, af, none⟩ := fun x => by cases op <;> rfl
  exact softB_spec (v := v) hi hb (.inl ⟨by simp [Region.wanted, yielded, hj, hdj, he.2.2 s2 _ hv], fun w' _ => by rw [hg]; exact hy a w' _ _ _ he⟩) (fun _ x hx => hs.1.2 x (hk x hx)) (h _ _ (he.putT v hd) hs)
/-- what a conversion yields in every world that keeps the blocks of the start -/
theorem d_cvK (i : Nat) {s : Nat} {op : Op} {v : Value} (hi : d.ops[i]? = some ⟨some s, op, ty, pos, af, none⟩) (hb : softB d.ops d.ph listed i = true) (hl : isLoad op = true) (hk : ∀ x, x ∈ d.Ck → x ∈ S.flatten)
    (hy : ∀ a, EnvOk c.n (T ++ L) a → ∀ w', Keep d.Ck w' → (execOp a.eval ⟨some s, op, ty, pos, af, none⟩).run c.P w' = .ok (.value v) w') (hd : Nat.blt s c.n = true)
    (h : OkD c d f (listed.setIfInBounds i true) ((s, v) :: T) L S Q) : OkD c d (f + 1) listed T L S Q := by
  intro a w he hs
  exact softB_spec (v := v) hi hb (.inl ⟨by simp [Region.wanted], fun w' hw => hy a he w' (hw hl)⟩) (fun _ x hx => hs.1.2 x (hk x hx)) (h _ _ (he.putT v hd) hs)
/-- guarded, the guard says yes -/
theorem d_Tg (i : Nat) {s s2 j : Nat} {b : Bool} {oj : Oper} {op : Op} {v : Value} (hi : d.ops[i]? = some ⟨some s, op, ty, pos, af, some (j, b)⟩) (hj : d.ops[j]? = some oj) (hdj : oj.dst = some s2) (hv : gt (T ++ L) s2 = some (.bool b)) (hb : softB d.ops d.ph listed i = true) (hl : isLoad op = false)
    (hy : Yields c.P c.n (T ++ L) op ty v) (hd : Nat.blt s c.n = true) (h : OkD c d f (listed.setIfInBounds i true) ((s, v) :: T) L S Q) : OkD c d (f + 1) listed T L S Q := by
  intro a w he hs
  have hg : ∀ x, execOp x ⟨some s, op, ty, pos, af, some (j, b)⟩ = execOp x ⟨some s, op, ty, pos, af, none⟩ := fun x => by cases op <;> rfl
  refine softB_spec (v := v) hi hb (.inl ⟨by simp [Region.wanted, yielded, hj, hdj, he.2.2 s2 _ hv], fun w' _ => by rw [hg]; exact hy a w' _ _ _ he⟩) (fun h0 => ?_) (h _ _ (he.putT v hd) hs)
  simp [hl] at h0
/-- guarded, the guard says no -/
theorem d_pass (i : Nat) {s s2 j : Nat} {b b' : Bool} {oj : Oper} {op : Op} (hi : d.ops[i]? = some ⟨some s, op, ty, pos, af, some (j, b)⟩) (hj : d.ops[j]? = some oj) (hdj : oj.dst = some s2) (hv : gt (T ++ L) s2 = some (.bool b')) (hbb : b' = !b) (hb : softB d.ops d.ph listed i = true)
    (hk : ∀ x, x ∈ d.Ck → x ∈ S.flatten) (hd : Nat.blt s c.n = true) (h : OkD c d f (listed.setIfInBounds i true) ((s, undef) :: T) L S Q) : OkD c d (f + 1) listed T L S Q := by
  intro a w he hs
  subst hbb
  refine softB_spec (v := undef) hi hb (.inr ⟨by cases b <;> simp [Region.wanted, yielded, hj, hdj, he.2.2 s2 _ hv], rfl⟩) (fun _ x hx => hs.1.2 x (hk x hx)) (h _ _ (he.putT undef hd) hs)

theorem d_passU (i : Nat) {s s2 j : Nat} {b : Bool} {oj : Oper} {op : Op} (hi : d.ops[i]? = some ⟨some s, op, ty, pos, af, some (j, b)⟩) (hj : d.ops[j]? = some oj) (hdj : oj.dst = some s2) (hv : gt (T ++ L) s2 = some undef) (hb : softB d.ops d.ph listed i = true)
    (hk : ∀ x, x ∈ d.Ck → x ∈ S.flatten) (hd : Nat.blt s c.n = true) (h : OkD c d f (listed.setIfInBounds i true) ((s, undef) :: T) L S Q) : OkD c d (f + 1) listed T L S Q := by
  intro a w he hs
  refine softB_spec (v := undef) hi hb (.inr ⟨by simp [Region.wanted, yielded, hj, hdj, he.2.2 s2 _ hv, undef], rfl⟩) (fun _ x hx => hs.1.2 x (hk x hx)) (h _ _ (he.putT undef hd) hs)

theorem d_split (s : Nat) {t : Bool} (hv : gt (T ++ L) s = some (.bool t)) (h1 : t = true → OkD c d f listed ((s, .bool true) :: T) L S Q) (h2 : t = false → OkD c d f listed ((s, .bool false) :: T) L S Q) : OkD c d f listed T L S Q := by
  intro a w he hs
  have key : ∀ b : Bool, t = b → EnvOk c.n (((s, .bool b) :: T) ++ L) a := fun b hb => he.sub fun u v hu => by
    subst hb
    simp only [List.cons_append, gt] at hu
    split at hu
    · rename_i hbq
      have : s = u := Nat.eq_of_beq_eq_true hbq
      subst this; rw [hv]; exact hu
    · exact hu
  cases t with
  | true => exact h1 rfl a w (key true rfl) hs
  | false => exact h2 rfl a w (key false rfl) hs

/-- a soft load of one cell (the block is one of the region's start; it still stands) -/
theorem d_ldg (i : Nat) {s : Nat} {g : Option (Nat × Bool)} {x : Operand} {t t' : TypeId} {b o : Nat} {cs : Array Value} {fz : Nat × Nat} {v : Value} (hi : d.ops[i]? = some ⟨some s, .load t x, ty, pos, af, g⟩) (hw : ∀ a, EnvOk c.n (T ++ L) a → Region.wanted (⟨some s, .load t x, ty, pos, af, g⟩ : Oper) (yielded d.ops a.tmps) = true) (hb : softB d.ops d.ph listed i = true) (ht : One c.P t) (hx : gv (T ++ L) x = some (.pointer (some ⟨b, o, none⟩)))
    (hk : ∀ x, x ∈ d.Ck → x ∈ S.flatten) (hm : (b, Obj.cells cs t' fz) ∈ d.Ck) (hc : cs[o]? = some v) (hd : Nat.blt s c.n = true)
    (h : OkD c d f (listed.setIfInBounds i true) ((s, v) :: T) L S Q) : OkD c d (f + 1) listed T L S Q := by
  intro a w he hs
  refine softB_spec (v := v) hi hb (.inl ⟨hw a he, fun w' hk' => ?_⟩) (fun _ x hx => hs.1.2 x (hk x hx)) (h _ _ (he.putT v hd) hs)
  have h0 := hk' rfl _ hm
  simp only at h0
  have h2 : w'.cell? ⟨b, o, none⟩ = some v := by simp [World.cell?, h0, hc]
  have g1 := he.gv hx
  generalize a.eval = ρ at *
  simp [execOp, go_sem, g1, Instr.loadAt, Instr.sureAddr, loadVar, isAgg_one ht, h2]
theorem d_ld (i : Nat) {s : Nat} {x : Operand} {t t' : TypeId} {b o : Nat} {cs : Array Value} {fz : Nat × Nat} {v : Value} (hi : d.ops[i]? = some ⟨some s, .load t x, ty, pos, af, none⟩) (hb : softB d.ops d.ph listed i = true) (ht : One c.P t) (hx : gv (T ++ L) x = some (.pointer (some ⟨b, o, none⟩)))
    (hk : ∀ x, x ∈ d.Ck → x ∈ S.flatten) (hm : (b, Obj.cells cs t' fz) ∈ d.Ck) (hc : cs[o]? = some v) (hd : Nat.blt s c.n = true)
    (h : OkD c d f (listed.setIfInBounds i true) ((s, v) :: T) L S Q) : OkD c d (f + 1) listed T L S Q :=
  d_ldg i hi (fun a _ => by simp [Region.wanted]) hb ht hx hk hm hc hd h
theorem d_ldt (i : Nat) {s s2 j : Nat} {bb : Bool} {oj : Oper} {x : Operand} {t t' : TypeId} {b o : Nat} {cs : Array Value} {fz : Nat × Nat} {v : Value} (hi : d.ops[i]? = some ⟨some s, .load t x, ty, pos, af, some (j, bb)⟩) (hj : d.ops[j]? = some oj) (hdj : oj.dst = some s2) (hv : gt (T ++ L) s2 = some (.bool bb)) (hb : softB d.ops d.ph listed i = true) (ht : One c.P t) (hx : gv (T ++ L) x = some (.pointer (some ⟨b, o, none⟩)))
    (hk : ∀ x, x ∈ d.Ck → x ∈ S.flatten) (hm : (b, Obj.cells cs t' fz) ∈ d.Ck) (hc : cs[o]? = some v) (hd : Nat.blt s c.n = true)
    (h : OkD c d f (listed.setIfInBounds i true) ((s, v) :: T) L S Q) : OkD c d (f + 1) listed T L S Q :=
  d_ldg i hi (fun a he => by simp [Region.wanted, yielded, hj, hdj, he.2.2 s2 _ hv]) hb ht hx hk hm hc hd h

def PostD (c : Cx) (d : Dx) (f : Nat) (listed : Array Bool) (i : Nat) (Q : Env → SH → Prop) (e : Env) (S : SH) : Prop :=
  ∃ T L, e = T ++ L ∧ (d.ph.getD i false = true → ∀ x, x ∈ d.Ck → x ∈ S.flatten) ∧ OkD c d f (listed.setIfInBounds i true) T L S Q

theorem o_stop {all : Array Oper} {i : Nat} (hk : d.ph.getD i false = true → ∀ x, x ∈ d.Ck → x ∈ S.flatten) (h : OkD c d f (listed.setIfInBounds i true) T L S Q) : OkO c all [] T L S (PostD c d f listed i Q) :=
  fun Q' hQ a w he hs => wpList_nil (hQ a w ⟨T ++ L, S, he, hs, T, L, rfl, hk, h⟩)
/-- the same, the block or the value being told: what the operation was run for has come to one form -/
theorem hard_step {o : Oper} {i : Nat} (hi : d.ops[i]? = some o) (h : OkO c d.ops [o] T L S (PostD c d f listed i Q)) (a : Act) (w : World) (he : EnvOk c.n (T ++ L) a) (hs : St c.w0 c.K0 w S) :
    wpOp c.P d.ops (NP (PostO c Q)) i (fun a' w' => (d.ph.getD i false = true → Keep d.Ck w → Keep d.Ck w') ∧ wpAnyC c.P d.ops d.ph d.Ck (PostO c Q) f (listed.setIfInBounds i true) a' w') a w := by
  have h1 := h (NP fun a' w' => (d.ph.getD i false = true → Keep d.Ck w → Keep d.Ck w') ∧ wpAnyC c.P d.ops d.ph d.Ck (PostO c Q) f (listed.setIfInBounds i true) a' w') ?_ a w he hs
  · unfold wpOp
    simp only [hi]
    unfold wpList at h1
    split
    · rename_i hw
      rw [if_pos hw] at h1
      rcases h1 with h1 | ⟨_, _, _, h0⟩
      · exact .inl (Oper.wp_np (fun _ _ h => h) h1)
      · exact h0.elim
    · rename_i hw
      rw [if_neg hw] at h1
      exact h1
  · rintro a' w' ⟨e, S', he', hs', T', L', rfl, hk, hd⟩
    exact ⟨fun hp _ x hx => hs'.1.2 x (hk hp x hx), hd a' w' he' hs'⟩

/-- one operation that is not soft, the only one that is ready: it is run by its own rule of the plain judgement -/
theorem d_hard (i : Nat) {o : Oper} (hi : d.ops[i]? = some o) (hr : hardB d.ops listed [i] = true) (h : OkO c d.ops [o] T L S (PostD c d f listed i Q)) : OkD c d (f + 1) listed T L S Q := by
  intro a w he hs
  have hr' : Region.ready .any d.ops listed = [i] := by simpa [hardB] using hr
  refine ⟨fun h0 => (by rw [hr'] at h0; cases h0), fun j hj => ?_⟩
  rw [hr'] at hj
  obtain rfl : j = i := by simpa using hj
  exact hard_step hi h a w he hs
/-- two that are ready: both orders -/
theorem d_hard2 (i k : Nat) {o o' : Oper} (hi : d.ops[i]? = some o) (hi' : d.ops[k]? = some o') (hr : hardB d.ops listed [i, k] = true) (h : OkO c d.ops [o] T L S (PostD c d f listed i Q)) (h' : OkO c d.ops [o'] T L S (PostD c d f listed k Q)) : OkD c d (f + 1) listed T L S Q := by
  intro a w he hs
  have hr' : Region.ready .any d.ops listed = [i, k] := by simpa [hardB] using hr
  refine ⟨fun h0 => (by rw [hr'] at h0; cases h0), fun j hj => ?_⟩
  rw [hr'] at hj
  rcases List.mem_cons.1 hj with rfl | hj
  · exact hard_step hi h a w he hs
  · obtain rfl : j = k := by simpa using hj
    exact hard_step hi' h' a w he hs
/-- the states of a region's end told by one form: both orders of two hard operations meet there again -/
theorem d_cut {Q' : Env → SH → Prop} (h : OkD c d f listed T L S Q') (hq : ∀ e S', Q' e S' → Q e S') : OkD c d f listed T L S Q := by
  intro a w he hs
  have h1 := h a w he hs
  revert h1
  generalize hl : listed = ls
  clear he hs hl h
  revert ls a w
  have key : ∀ (f : Nat) (ls : Array Bool) (a : Act) (w : World), wpAnyC c.P d.ops d.ph d.Ck (PostO c Q') f ls a w → wpAnyC c.P d.ops d.ph d.Ck (PostO c Q) f ls a w := by
    intro f
    induction f with
    | zero => rintro ls a w ⟨h1, e, S', h2, h3, h4⟩; exact ⟨h1, e, S', h2, h3, hq _ _ h4⟩
    | succ f ih =>
      rintro ls a w ⟨h1, h2⟩
      refine ⟨fun h0 => ?_, fun j hj => ?_⟩
      · obtain ⟨e, S', h2, h3, h4⟩ := h1 h0; exact ⟨e, S', h2, h3, hq _ _ h4⟩
      · exact wpOp_np (fun a' w' hk => ⟨hk.1, ih _ _ _ hk.2⟩) (h2 j hj)
  intro a w ls h1
  exact key f ls a w h1
end
end Go.Eng
