/- RULES: fields of objects; the shapes of the models (binds, joins, loops by fuel). -/
import Derived.Test.Qxb6500350aGreatN5
set_option linter.unusedVariables false
set_option linter.unusedSimpArgs false
namespace Go.Eng
theorem At.got {cs : List Value} {o : Nat} {v : Value} (h : At cs o [v]) : cs.toArray[o]? = some v := by
  have := h.get
  simpa using this
theorem At.exs {cs : List Value} {o n : Nat} {ws : List Value} (h : At cs o ws) (hn : ws.length = n) : cs.toArray.extract o (o + n) = ws.toArray := At.ext (cs := cs.toArray) (by simpa using h) hn
theorem At.fits {cs : List Value} {o n : Nat} {ws : List Value} (h : At cs o ws) (hn : ws.length = n) : o + n ≤ cs.toArray.size := At.fit (cs := cs.toArray) (by simpa using h) hn
section
variable {c : Cx} {all : Array Oper} {rest : List Oper} {T L : Env} {S : SH} {Q : Env → SH → Prop} {pos : String} {af : Array Edge} {ty : TypeId}
theorem o_stU {x y : Operand} {t t' : TypeId} {b o : Nat} {cs cs' : List Value} {u v : Value} {S' : SH} (ht : One c.P t) (hx : gv (T ++ L) x = some (.pointer (some ⟨b, o, none⟩))) (hy : gv (T ++ L) y = some v) (hv : plainV v = true) (hu : Upd cs o [u] [v] cs')
    (hr : Rep S S' (b, .cells cs.toArray t' (0, 0)) (b, .cells cs'.toArray t' (0, 0))) (h : OkO c all rest T L S' Q) : OkO c all (⟨none, .store t x y, ty, pos, af, none⟩ :: rest) T L S Q :=
  o_st ht hx hy hv hr hu.set hu.lt h
theorem o_stUA {x y : Operand} {t t' : TypeId} {b o sz : Nat} {cs cs' ws ws' : List Value} {S' : SH} (ht : Agg c.P t sz) (hx : gv (T ++ L) x = some (.pointer (some ⟨b, o, none⟩))) (hy : gv (T ++ L) y = some (.agg ws'.toArray)) (hv : ws'.all plainV = true) (hz : ws'.length = sz) (hu : Upd cs o ws ws' cs')
    (hr : Rep S S' (b, .cells cs.toArray t' (0, 0)) (b, .cells cs'.toArray t' (0, 0))) (h : OkO c all rest T L S' Q) : OkO c all (⟨none, .store t x y, ty, pos, af, none⟩ :: rest) T L S Q := by
  refine o_sta ht hx hy (by simpa using hv) (by simpa using hz) hr hu.setAll (hu.fit ?_) h
  obtain ⟨_, _, _, _, _, h4⟩ := hu
  rw [← h4]; exact hz
end
theorem fbU {pl : List (Nat × Nat)} {cs cs' ws ws' : List Value} {i off sz : Nat} {v : Value} {r : List (Nat × Value)} {out : Option (Array Value)} (hp : pl[i]? = some (off, sz)) (hu : Upd cs off ws ws' cs') (hv : v.cells = ws'.toArray) (hz : Nat.beq ws'.length sz = true) (hr : fillE pl cs'.toArray r = out) :
    fillE pl cs.toArray ((i, v) :: r) = out := by
  subst hr
  have h1 : Nat.beq v.cells.size sz = true := by rw [hv]; simpa using hz
  have h2 : Nat.ble (off + sz) cs.toArray.size = true := by
    have h3 := Nat.eq_of_beq_eq_true hz
    obtain ⟨p, q, rfl, _, rfl, h4⟩ := hu
    refine Nat.ble_eq_true_of_le ?_
    simp; omega
  simp only [fillE, hp, h1, h2]
  rw [hv, hu.setAll]
theorem fbU0 {pl : List (Nat × Nat)} {cs : Array Value} : fillE pl cs [] = some cs := rfl
/-- an array of zeros as a value -/
theorem y_buildA {P : Program} {n : Nat} {e : Env} {ty : TypeId} {t el len : TypeId} {z : Array Value} (hz : ZeroAt P t z) (ht : P.underlying t = some (.array len el)) (hs : P.info? el ≠ none) :
    Yields P n e (.build t #[]) ty (.agg z) := fun a w d pos af he => by
  obtain ⟨i, v, hi, hv, rfl⟩ := hz
  cases hel : P.info? el with
  | none => exact absurd hel hs
  | some j => simp [execOp, Instr.build, run_underlying ht, zeroValue, typeInfo, hi, hv, sz_run hel, Instr.fill, Result.andThen]
theorem wb {k : IntKind} {b : UInt8} (h : k.wrap (b.toNat : Int) = (b.toNat : Int)) : k.wrap (b.toNat : Int) = (b.toNat : Int) := h
theorem wbi (b : UInt8) : IntKind.i64.wrap (b.toNat : Int) = (b.toNat : Int) := by have := b.toNat_lt; exact w64 (by omega)
theorem wbu (b : UInt8) : IntKind.u64.wrap (b.toNat : Int) = (b.toNat : Int) := by have := b.toNat_lt; rw [w64u]; omega
theorem wbw (b : UInt8) : IntKind.u32.wrap (b.toNat : Int) = (b.toNat : Int) := by have := b.toNat_lt; simp [IntKind.wrap, IntKind.bits, IntKind.signed]; omega
abbrev wi (x : Int) : Int := IntKind.i64.wrap x
abbrev wu (x : Int) : Int := IntKind.u64.wrap x
abbrev ww (x : Int) : Int := IntKind.u32.wrap x
/-! Shapes of models -/
inductive Flow (ρ σ : Type) where
  | nx (s : σ)
  | ret (r : ρ)
def FlowP {ρ σ τ : Type} (F : σ → Option τ) (K : ρ → Option τ) (r : τ) : Flow ρ σ → Prop
  | .nx s => F s = some r
  | .ret q => K q = some r
def flow {ρ σ τ : Type} (x : Option (Flow ρ σ)) (K : ρ → Option τ) (F : σ → Option τ) : Option τ := match x with
  | none => none
  | some (.nx s) => F s
  | some (.ret q) => K q
theorem fl {ρ σ τ : Type} {x : Option (Flow ρ σ)} {K : ρ → Option τ} {F : σ → Option τ} {r : τ} (h : flow x K F = some r) : ∃ f, x = some f ∧ FlowP F K r f := by
  unfold flow at h
  split at h
  · cases h
  · rename_i s; exact ⟨.nx s, rfl, h⟩
  · rename_i q; exact ⟨.ret q, rfl, h⟩
theorem fl_nx {ρ σ τ : Type} {K : ρ → Option τ} {F : σ → Option τ} {r : τ} {s : σ} {f : Flow ρ σ} (h : some (Flow.nx s) = some f) (g : FlowP F K r f) : F s = some r := by cases h; exact g
theorem fl_ret {ρ σ τ : Type} {K : ρ → Option τ} {F : σ → Option τ} {r : τ} {q : ρ} {f : Flow ρ σ} (h : some (Flow.ret q) = some f) (g : FlowP F K r f) : K q = some r := by cases h; exact g
theorem p1 {α : Type} {a b : α} (h : some a = some b) : a = b := Option.some.inj h
theorem em_t {α β : Type} {x : α} {y : β} : True := trivial
/-- behind 1 results -/
def ob1 {α0 τ : Type} (x : Option (α0)) (F : α0 → Option τ) : Option τ := match x with
  | none => none
  | some (a0) => F a0
theorem bd1 {α0 τ : Type} {x : Option (α0)} {F : α0 → Option τ} {r : τ} (h : ob1 x F = some r) : ∃ a0, x = some (a0) ∧ F a0 = some r := by
  cases x with
  | none => cases h
  | some p => exact ⟨p, rfl, h⟩
@[simp] theorem ob1_some {α0 τ : Type} {a0 : α0} {F : α0 → Option τ} : ob1 (some (a0)) F = F a0 := rfl
def un1 {α0 τ : Type} (F : α0 → Option τ) : α0 → Option τ := fun (a0) => F a0
/-- a loop of 1 variables by fuel -/
def it1 {α0 τ : Type} (F : (α0 → Option τ) → α0 → Option τ) : Nat → α0 → Option τ
  | 0 => fun _ => none
  | m + 1 => F (it1 F m)
theorem it1_s {α0 τ : Type} {F : (α0 → Option τ) → α0 → Option τ} {m : Nat} {a0 : α0} {r : τ} (h : it1 F m a0 = some r) : ∃ m0, m = m0 + 1 ∧ F (it1 F m0) a0 = some r := by
  cases m with
  | zero => cases h
  | succ m => exact ⟨m, rfl, h⟩
def rc1 {α0 τ : Type} (F : Nat → (α0 → Option τ) → α0 → Option τ) : Nat → α0 → Option τ
  | 0 => fun _ => none
  | m + 1 => F m (rc1 F m)
theorem rc1_s {α0 τ : Type} {F : Nat → (α0 → Option τ) → α0 → Option τ} {m : Nat} {a0 : α0} {r : τ} (h : rc1 F (m + 1) a0 = some r) : F m (rc1 F m) a0 = some r := h
/-- behind 2 results -/
def ob2 {α0 α1 τ : Type} (x : Option (α0 × α1)) (F : α0 → α1 → Option τ) : Option τ := match x with
  | none => none
  | some (a0, a1) => F a0 a1
theorem bd2 {α0 α1 τ : Type} {x : Option (α0 × α1)} {F : α0 → α1 → Option τ} {r : τ} (h : ob2 x F = some r) : ∃ a0 a1, x = some (a0, a1) ∧ F a0 a1 = some r := by
  cases x with
  | none => cases h
  | some p => obtain ⟨a0, a1⟩ := p; exact ⟨a0, a1, rfl, h⟩
@[simp] theorem ob2_some {α0 α1 τ : Type} {a0 : α0} {a1 : α1} {F : α0 → α1 → Option τ} : ob2 (some (a0, a1)) F = F a0 a1 := rfl
def un2 {α0 α1 τ : Type} (F : α0 → α1 → Option τ) : α0 × α1 → Option τ := fun (a0, a1) => F a0 a1
theorem pr2 {α0 α1 : Type} {a0 : α0} {a1 : α1} {b0 : α0} {b1 : α1} (h : some (a0, a1) = some (b0, b1)) : a0 = b0 ∧ a1 = b1 := by
  injection h with h
  simpa using h
/-- a loop of 2 variables by fuel -/
def it2 {α0 α1 τ : Type} (F : (α0 → α1 → Option τ) → α0 → α1 → Option τ) : Nat → α0 → α1 → Option τ
  | 0 => fun _ _ => none
  | m + 1 => F (it2 F m)
theorem it2_s {α0 α1 τ : Type} {F : (α0 → α1 → Option τ) → α0 → α1 → Option τ} {m : Nat} {a0 : α0} {a1 : α1} {r : τ} (h : it2 F m a0 a1 = some r) : ∃ m0, m = m0 + 1 ∧ F (it2 F m0) a0 a1 = some r := by
  cases m with
  | zero => cases h
  | succ m => exact ⟨m, rfl, h⟩
def rc2 {α0 α1 τ : Type} (F : Nat → (α0 → α1 → Option τ) → α0 → α1 → Option τ) : Nat → α0 → α1 → Option τ
  | 0 => fun _ _ => none
  | m + 1 => F m (rc2 F m)
theorem rc2_s {α0 α1 τ : Type} {F : Nat → (α0 → α1 → Option τ) → α0 → α1 → Option τ} {m : Nat} {a0 : α0} {a1 : α1} {r : τ} (h : rc2 F (m + 1) a0 a1 = some r) : F m (rc2 F m) a0 a1 = some r := h
/-- behind 3 results -/
def ob3 {α0 α1 α2 τ : Type} (x : Option (α0 × α1 × α2)) (F : α0 → α1 → α2 → Option τ) : Option τ := match x with
  | none => none
  | some (a0, a1, a2) => F a0 a1 a2
theorem bd3 {α0 α1 α2 τ : Type} {x : Option (α0 × α1 × α2)} {F : α0 → α1 → α2 → Option τ} {r : τ} (h : ob3 x F = some r) : ∃ a0 a1 a2, x = some (a0, a1, a2) ∧ F a0 a1 a2 = some r := by
  cases x with
  | none => cases h
  | some p => obtain ⟨a0, a1, a2⟩ := p; exact ⟨a0, a1, a2, rfl, h⟩
@[simp] theorem ob3_some {α0 α1 α2 τ : Type} {a0 : α0} {a1 : α1} {a2 : α2} {F : α0 → α1 → α2 → Option τ} : ob3 (some (a0, a1, a2)) F = F a0 a1 a2 := rfl
def un3 {α0 α1 α2 τ : Type} (F : α0 → α1 → α2 → Option τ) : α0 × α1 × α2 → Option τ := fun (a0, a1, a2) => F a0 a1 a2
theorem pr3 {α0 α1 α2 : Type} {a0 : α0} {a1 : α1} {a2 : α2} {b0 : α0} {b1 : α1} {b2 : α2} (h : some (a0, a1, a2) = some (b0, b1, b2)) : a0 = b0 ∧ a1 = b1 ∧ a2 = b2 := by
  injection h with h
  simpa using h
/-- a loop of 3 variables by fuel -/
def it3 {α0 α1 α2 τ : Type} (F : (α0 → α1 → α2 → Option τ) → α0 → α1 → α2 → Option τ) : Nat → α0 → α1 → α2 → Option τ
  | 0 => fun _ _ _ => none
  | m + 1 => F (it3 F m)
theorem it3_s {α0 α1 α2 τ : Type} {F : (α0 → α1 → α2 → Option τ) → α0 → α1 → α2 → Option τ} {m : Nat} {a0 : α0} {a1 : α1} {a2 : α2} {r : τ} (h : it3 F m a0 a1 a2 = some r) : ∃ m0, m = m0 + 1 ∧ F (it3 F m0) a0 a1 a2 = some r := by
  cases m with
  | zero => cases h
  | succ m => exact ⟨m, rfl, h⟩
def rc3 {α0 α1 α2 τ : Type} (F : Nat → (α0 → α1 → α2 → Option τ) → α0 → α1 → α2 → Option τ) : Nat → α0 → α1 → α2 → Option τ
  | 0 => fun _ _ _ => none
  | m + 1 => F m (rc3 F m)
theorem rc3_s {α0 α1 α2 τ : Type} {F : Nat → (α0 → α1 → α2 → Option τ) → α0 → α1 → α2 → Option τ} {m : Nat} {a0 : α0} {a1 : α1} {a2 : α2} {r : τ} (h : rc3 F (m + 1) a0 a1 a2 = some r) : F m (rc3 F m) a0 a1 a2 = some r := h
/-- behind 4 results -/
def ob4 {α0 α1 α2 α3 τ : Type} (x : Option (α0 × α1 × α2 × α3)) (F : α0 → α1 → α2 → α3 → Option τ) : Option τ := match x with
  | none => none
  | some (a0, a1, a2, a3) => F a0 a1 a2 a3
theorem bd4 {α0 α1 α2 α3 τ : Type} {x : Option (α0 × α1 × α2 × α3)} {F : α0 → α1 → α2 → α3 → Option τ} {r : τ} (h : ob4 x F = some r) : ∃ a0 a1 a2 a3, x = some (a0, a1, a2, a3) ∧ F a0 a1 a2 a3 = some r := by
  cases x with
  | none => cases h
  | some p => obtain ⟨a0, a1, a2, a3⟩ := p; exact ⟨a0, a1, a2, a3, rfl, h⟩
@[simp] theorem ob4_some {α0 α1 α2 α3 τ : Type} {a0 : α0} {a1 : α1} {a2 : α2} {a3 : α3} {F : α0 → α1 → α2 → α3 → Option τ} : ob4 (some (a0, a1, a2, a3)) F = F a0 a1 a2 a3 := rfl
def un4 {α0 α1 α2 α3 τ : Type} (F : α0 → α1 → α2 → α3 → Option τ) : α0 × α1 × α2 × α3 → Option τ := fun (a0, a1, a2, a3) => F a0 a1 a2 a3
theorem pr4 {α0 α1 α2 α3 : Type} {a0 : α0} {a1 : α1} {a2 : α2} {a3 : α3} {b0 : α0} {b1 : α1} {b2 : α2} {b3 : α3} (h : some (a0, a1, a2, a3) = some (b0, b1, b2, b3)) : a0 = b0 ∧ a1 = b1 ∧ a2 = b2 ∧ a3 = b3 := by
  injection h with h
  simpa using h
/-- a loop of 4 variables by fuel -/
def it4 {α0 α1 α2 α3 τ : Type} (F : (α0 → α1 → α2 → α3 → Option τ) → α0 → α1 → α2 → α3 → Option τ) : Nat → α0 → α1 → α2 → α3 → Option τ
  | 0 => fun _ _ _ _ => none
  | m + 1 => F (it4 F m)
theorem it4_s {α0 α1 α2 α3 τ : Type} {F : (α0 → α1 → α2 → α3 → Option τ) → α0 → α1 → α2 → α3 → Option τ} {m : Nat} {a0 : α0} {a1 : α1} {a2 : α2} {a3 : α3} {r : τ} (h : it4 F m a0 a1 a2 a3 = some r) : ∃ m0, m = m0 + 1 ∧ F (it4 F m0) a0 a1 a2 a3 = some r := by
  cases m with
  | zero => cases h
  | succ m => exact ⟨m, rfl, h⟩
def rc4 {α0 α1 α2 α3 τ : Type} (F : Nat → (α0 → α1 → α2 → α3 → Option τ) → α0 → α1 → α2 → α3 → Option τ) : Nat → α0 → α1 → α2 → α3 → Option τ
  | 0 => fun _ _ _ _ => none
  | m + 1 => F m (rc4 F m)
theorem rc4_s {α0 α1 α2 α3 τ : Type} {F : Nat → (α0 → α1 → α2 → α3 → Option τ) → α0 → α1 → α2 → α3 → Option τ} {m : Nat} {a0 : α0} {a1 : α1} {a2 : α2} {a3 : α3} {r : τ} (h : rc4 F (m + 1) a0 a1 a2 a3 = some r) : F m (rc4 F m) a0 a1 a2 a3 = some r := h
/-- behind 5 results -/
def ob5 {α0 α1 α2 α3 α4 τ : Type} (x : Option (α0 × α1 × α2 × α3 × α4)) (F : α0 → α1 → α2 → α3 → α4 → Option τ) : Option τ := match x with
  | none => none
  | some (a0, a1, a2, a3, a4) => F a0 a1 a2 a3 a4
theorem bd5 {α0 α1 α2 α3 α4 τ : Type} {x : Option (α0 × α1 × α2 × α3 × α4)} {F : α0 → α1 → α2 → α3 → α4 → Option τ} {r : τ} (h : ob5 x F = some r) : ∃ a0 a1 a2 a3 a4, x = some (a0, a1, a2, a3, a4) ∧ F a0 a1 a2 a3 a4 = some r := by
  cases x with
  | none => cases h
  | some p => obtain ⟨a0, a1, a2, a3, a4⟩ := p; exact ⟨a0, a1, a2, a3, a4, rfl, h⟩
@[simp] theorem ob5_some {α0 α1 α2 α3 α4 τ : Type} {a0 : α0} {a1 : α1} {a2 : α2} {a3 : α3} {a4 : α4} {F : α0 → α1 → α2 → α3 → α4 → Option τ} : ob5 (some (a0, a1, a2, a3, a4)) F = F a0 a1 a2 a3 a4 := rfl
def un5 {α0 α1 α2 α3 α4 τ : Type} (F : α0 → α1 → α2 → α3 → α4 → Option τ) : α0 × α1 × α2 × α3 × α4 → Option τ := fun (a0, a1, a2, a3, a4) => F a0 a1 a2 a3 a4
theorem pr5 {α0 α1 α2 α3 α4 : Type} {a0 : α0} {a1 : α1} {a2 : α2} {a3 : α3} {a4 : α4} {b0 : α0} {b1 : α1} {b2 : α2} {b3 : α3} {b4 : α4} (h : some (a0, a1, a2, a3, a4) = some (b0, b1, b2, b3, b4)) : a0 = b0 ∧ a1 = b1 ∧ a2 = b2 ∧ a3 = b3 ∧ a4 = b4 := by
  injection h with h
  simpa using h
/-- a loop of 5 variables by fuel -/
def it5 {α0 α1 α2 α3 α4 τ : Type} (F : (α0 → α1 → α2 → α3 → α4 → Option τ) → α0 → α1 → α2 → α3 → α4 → Option τ) : Nat → α0 → α1 → α2 → α3 → α4 → Option τ
  | 0 => fun _ _ _ _ _ => none
  | m + 1 => F (it5 F m)
theorem it5_s {α0 α1 α2 α3 α4 τ : Type} {F : (α0 → α1 → α2 → α3 → α4 → Option τ) → α0 → α1 → α2 → α3 → α4 → Option τ} {m : Nat} {a0 : α0} {a1 : α1} {a2 : α2} {a3 : α3} {a4 : α4} {r : τ} (h : it5 F m a0 a1 a2 a3 a4 = some r) : ∃ m0, m = m0 + 1 ∧ F (it5 F m0) a0 a1 a2 a3 a4 = some r := by
  cases m with
  | zero => cases h
  | succ m => exact ⟨m, rfl, h⟩
def rc5 {α0 α1 α2 α3 α4 τ : Type} (F : Nat → (α0 → α1 → α2 → α3 → α4 → Option τ) → α0 → α1 → α2 → α3 → α4 → Option τ) : Nat → α0 → α1 → α2 → α3 → α4 → Option τ
  | 0 => fun _ _ _ _ _ => none
  | m + 1 => F m (rc5 F m)
theorem rc5_s {α0 α1 α2 α3 α4 τ : Type} {F : Nat → (α0 → α1 → α2 → α3 → α4 → Option τ) → α0 → α1 → α2 → α3 → α4 → Option τ} {m : Nat} {a0 : α0} {a1 : α1} {a2 : α2} {a3 : α3} {a4 : α4} {r : τ} (h : rc5 F (m + 1) a0 a1 a2 a3 a4 = some r) : F m (rc5 F m) a0 a1 a2 a3 a4 = some r := h
/-- behind 6 results -/
def ob6 {α0 α1 α2 α3 α4 α5 τ : Type} (x : Option (α0 × α1 × α2 × α3 × α4 × α5)) (F : α0 → α1 → α2 → α3 → α4 → α5 → Option τ) : Option τ := match x with
  | none => none
  | some (a0, a1, a2, a3, a4, a5) => F a0 a1 a2 a3 a4 a5
theorem bd6 {α0 α1 α2 α3 α4 α5 τ : Type} {x : Option (α0 × α1 × α2 × α3 × α4 × α5)} {F : α0 → α1 → α2 → α3 → α4 → α5 → Option τ} {r : τ} (h : ob6 x F = some r) : ∃ a0 a1 a2 a3 a4 a5, x = some (a0, a1, a2, a3, a4, a5) ∧ F a0 a1 a2 a3 a4 a5 = some r := by
  cases x with
  | none => cases h
  | some p => obtain ⟨a0, a1, a2, a3, a4, a5⟩ := p; exact ⟨a0, a1, a2, a3, a4, a5, rfl, h⟩
@[simp] theorem ob6_some {α0 α1 α2 α3 α4 α5 τ : Type} {a0 : α0} {a1 : α1} {a2 : α2} {a3 : α3} {a4 : α4} {a5 : α5} {F : α0 → α1 → α2 → α3 → α4 → α5 → Option τ} : ob6 (some (a0, a1, a2, a3, a4, a5)) F = F a0 a1 a2 a3 a4 a5 := rfl
def un6 {α0 α1 α2 α3 α4 α5 τ : Type} (F : α0 → α1 → α2 → α3 → α4 → α5 → Option τ) : α0 × α1 × α2 × α3 × α4 × α5 → Option τ := fun (a0, a1, a2, a3, a4, a5) => F a0 a1 a2 a3 a4 a5
theorem pr6 {α0 α1 α2 α3 α4 α5 : Type} {a0 : α0} {a1 : α1} {a2 : α2} {a3 : α3} {a4 : α4} {a5 : α5} {b0 : α0} {b1 : α1} {b2 : α2} {b3 : α3} {b4 : α4} {b5 : α5} (h : some (a0, a1, a2, a3, a4, a5) = some (b0, b1, b2, b3, b4, b5)) : a0 = b0 ∧ a1 = b1 ∧ a2 = b2 ∧ a3 = b3 ∧ a4 = b4 ∧ a5 = b5 := by
  injection h with h
  simpa using h
/-- a loop of 6 variables by fuel -/
def it6 {α0 α1 α2 α3 α4 α5 τ : Type} (F : (α0 → α1 → α2 → α3 → α4 → α5 → Option τ) → α0 → α1 → α2 → α3 → α4 → α5 → Option τ) : Nat → α0 → α1 → α2 → α3 → α4 → α5 → Option τ
  | 0 => fun _ _ _ _ _ _ => none
  | m + 1 => F (it6 F m)
theorem it6_s {α0 α1 α2 α3 α4 α5 τ : Type} {F : (α0 → α1 → α2 → α3 → α4 → α5 → Option τ) → α0 → α1 → α2 → α3 → α4 → α5 → Option τ} {m : Nat} {a0 : α0} {a1 : α1} {a2 : α2} {a3 : α3} {a4 : α4} {a5 : α5} {r : τ} (h : it6 F m a0 a1 a2 a3 a4 a5 = some r) : ∃ m0, m = m0 + 1 ∧ F (it6 F m0) a0 a1 a2 a3 a4 a5 = some r := by
  cases m with
  | zero => cases h
  | succ m => exact ⟨m, rfl, h⟩
def rc6 {α0 α1 α2 α3 α4 α5 τ : Type} (F : Nat → (α0 → α1 → α2 → α3 → α4 → α5 → Option τ) → α0 → α1 → α2 → α3 → α4 → α5 → Option τ) : Nat → α0 → α1 → α2 → α3 → α4 → α5 → Option τ
  | 0 => fun _ _ _ _ _ _ => none
  | m + 1 => F m (rc6 F m)
theorem rc6_s {α0 α1 α2 α3 α4 α5 τ : Type} {F : Nat → (α0 → α1 → α2 → α3 → α4 → α5 → Option τ) → α0 → α1 → α2 → α3 → α4 → α5 → Option τ} {m : Nat} {a0 : α0} {a1 : α1} {a2 : α2} {a3 : α3} {a4 : α4} {a5 : α5} {r : τ} (h : rc6 F (m + 1) a0 a1 a2 a3 a4 a5 = some r) : F m (rc6 F m) a0 a1 a2 a3 a4 a5 = some r := h
/-- behind 7 results -/
def ob7 {α0 α1 α2 α3 α4 α5 α6 τ : Type} (x : Option (α0 × α1 × α2 × α3 × α4 × α5 × α6)) (F : α0 → α1 → α2 → α3 → α4 → α5 → α6 → Option τ) : Option τ := match x with
  | none => none
  | some (a0, a1, a2, a3, a4, a5, a6) => F a0 a1 a2 a3 a4 a5 a6
theorem bd7 {α0 α1 α2 α3 α4 α5 α6 τ : Type} {x : Option (α0 × α1 × α2 × α3 × α4 × α5 × α6)} {F : α0 → α1 → α2 → α3 → α4 → α5 → α6 → Option τ} {r : τ} (h : ob7 x F = some r) : ∃ a0 a1 a2 a3 a4 a5 a6, x = some (a0, a1, a2, a3, a4, a5, a6) ∧ F a0 a1 a2 a3 a4 a5 a6 = some r := by
  cases x with
  | none => cases h
  | some p => obtain ⟨a0, a1, a2, a3, a4, a5, a6⟩ := p; exact ⟨a0, a1, a2, a3, a4, a5, a6, rfl, h⟩
@[simp] theorem ob7_some {α0 α1 α2 α3 α4 α5 α6 τ : Type} {a0 : α0} {a1 : α1} {a2 : α2} {a3 : α3} {a4 : α4} {a5 : α5} {a6 : α6} {F : α0 → α1 → α2 → α3 → α4 → α5 → α6 → Option τ} : ob7 (some (a0, a1, a2, a3, a4, a5, a6)) F = F a0 a1 a2 a3 a4 a5 a6 := rfl
def un7 {α0 α1 α2 α3 α4 α5 α6 τ : Type} (F : α0 → α1 → α2 → α3 → α4 → α5 → α6 → Option τ) : α0 × α1 × α2 × α3 × α4 × α5 × α6 → Option τ := fun (a0, a1, a2, a3, a4, a5, a6) => F a0 a1 a2 a3 a4 a5 a6
theorem pr7 {α0 α1 α2 α3 α4 α5 α6 : Type} {a0 : α0} {a1 : α1} {a2 : α2} {a3 : α3} {a4 : α4} {a5 : α5} {a6 : α6} {b0 : α0} {b1 : α1} {b2 : α2} {b3 : α3} {b4 : α4} {b5 : α5} {b6 : α6} (h : some (a0, a1, a2, a3, a4, a5, a6) = some (b0, b1, b2, b3, b4, b5, b6)) : a0 = b0 ∧ a1 = b1 ∧ a2 = b2 ∧ a3 = b3 ∧ a4 = b4 ∧ a5 = b5 ∧ a6 = b6 := by
  injection h with h
  simpa using h
/-- a loop of 7 variables by fuel -/
def it7 {α0 α1 α2 α3 α4 α5 α6 τ : Type} (F : (α0 → α1 → α2 → α3 → α4 → α5 → α6 → Option τ) → α0 → α1 → α2 → α3 → α4 → α5 → α6 → Option τ) : Nat → α0 → α1 → α2 → α3 → α4 → α5 → α6 → Option τ
  | 0 => fun _ _ _ _ _ _ _ => none
  | m + 1 => F (it7 F m)
theorem it7_s {α0 α1 α2 α3 α4 α5 α6 τ : Type} {F : (α0 → α1 → α2 → α3 → α4 → α5 → α6 → Option τ) → α0 → α1 → α2 → α3 → α4 → α5 → α6 → Option τ} {m : Nat} {a0 : α0} {a1 : α1} {a2 : α2} {a3 : α3} {a4 : α4} {a5 : α5} {a6 : α6} {r : τ} (h : it7 F m a0 a1 a2 a3 a4 a5 a6 = some r) : ∃ m0, m = m0 + 1 ∧ F (it7 F m0) a0 a1 a2 a3 a4 a5 a6 = some r := by
  cases m with
  | zero => cases h
  | succ m => exact ⟨m, rfl, h⟩
def rc7 {α0 α1 α2 α3 α4 α5 α6 τ : Type} (F : Nat → (α0 → α1 → α2 → α3 → α4 → α5 → α6 → Option τ) → α0 → α1 → α2 → α3 → α4 → α5 → α6 → Option τ) : Nat → α0 → α1 → α2 → α3 → α4 → α5 → α6 → Option τ
  | 0 => fun _ _ _ _ _ _ _ => none
  | m + 1 => F m (rc7 F m)
theorem rc7_s {α0 α1 α2 α3 α4 α5 α6 τ : Type} {F : Nat → (α0 → α1 → α2 → α3 → α4 → α5 → α6 → Option τ) → α0 → α1 → α2 → α3 → α4 → α5 → α6 → Option τ} {m : Nat} {a0 : α0} {a1 : α1} {a2 : α2} {a3 : α3} {a4 : α4} {a5 : α5} {a6 : α6} {r : τ} (h : rc7 F (m + 1) a0 a1 a2 a3 a4 a5 a6 = some r) : F m (rc7 F m) a0 a1 a2 a3 a4 a5 a6 = some r := h
/-- behind 8 results -/
def ob8 {α0 α1 α2 α3 α4 α5 α6 α7 τ : Type} (x : Option (α0 × α1 × α2 × α3 × α4 × α5 × α6 × α7)) (F : α0 → α1 → α2 → α3 → α4 → α5 → α6 → α7 → Option τ) : Option τ := match x with
  | none => none
  | some (a0, a1, a2, a3, a4, a5, a6, a7) => F a0 a1 a2 a3 a4 a5 a6 a7
theorem bd8 {α0 α1 α2 α3 α4 α5 α6 α7 τ : Type} {x : Option (α0 × α1 × α2 × α3 × α4 × α5 × α6 × α7)} {F : α0 → α1 → α2 → α3 → α4 → α5 → α6 → α7 → Option τ} {r : τ} (h : ob8 x F = some r) : ∃ a0 a1 a2 a3 a4 a5 a6 a7, x = some (a0, a1, a2, a3, a4, a5, a6, a7) ∧ F a0 a1 a2 a3 a4 a5 a6 a7 = some r := by
  cases x with
  | none => cases h
  | some p => obtain ⟨a0, a1, a2, a3, a4, a5, a6, a7⟩ := p; exact ⟨a0, a1, a2, a3, a4, a5, a6, a7, rfl, h⟩
@[simp] theorem ob8_some {α0 α1 α2 α3 α4 α5 α6 α7 τ : Type} {a0 : α0} {a1 : α1} {a2 : α2} {a3 : α3} {a4 : α4} {a5 : α5} {a6 : α6} {a7 : α7} {F : α0 → α1 → α2 → α3 → α4 → α5 → α6 → α7 → Option τ} : ob8 (some (a0, a1, a2, a3, a4, a5, a6, a7)) F = F a0 a1 a2 a3 a4 a5 a6 a7 := rfl
def un8 {α0 α1 α2 α3 α4 α5 α6 α7 τ : Type} (F : α0 → α1 → α2 → α3 → α4 → α5 → α6 → α7 → Option τ) : α0 × α1 × α2 × α3 × α4 × α5 × α6 × α7 → Option τ := fun (a0, a1, a2, a3, a4, a5, a6, a7) => F a0 a1 a2 a3 a4 a5 a6 a7
theorem pr8 {α0 α1 α2 α3 α4 α5 α6 α7 : Type} {a0 : α0} {a1 : α1} {a2 : α2} {a3 : α3} {a4 : α4} {a5 : α5} {a6 : α6} {a7 : α7} {b0 : α0} {b1 : α1} {b2 : α2} {b3 : α3} {b4 : α4} {b5 : α5} {b6 : α6} {b7 : α7} (h : some (a0, a1, a2, a3, a4, a5, a6, a7) = some (b0, b1, b2, b3, b4, b5, b6, b7)) : a0 = b0 ∧ a1 = b1 ∧ a2 = b2 ∧ a3 = b3 ∧ a4 = b4 ∧ a5 = b5 ∧ a6 = b6 ∧ a7 = b7 := by
  injection h with h
  simpa using h
/-- a loop of 8 variables by fuel -/
def it8 {α0 α1 α2 α3 α4 α5 α6 α7 τ : Type} (F : (α0 → α1 → α2 → α3 → α4 → α5 → α6 → α7 → Option τ) → α0 → α1 → α2 → α3 → α4 → α5 → α6 → α7 → Option τ) : Nat → α0 → α1 → α2 → α3 → α4 → α5 → α6 → α7 → Option τ
  | 0 => fun _ _ _ _ _ _ _ _ => none
  | m + 1 => F (it8 F m)
theorem it8_s {α0 α1 α2 α3 α4 α5 α6 α7 τ : Type} {F : (α0 → α1 → α2 → α3 → α4 → α5 → α6 → α7 → Option τ) → α0 → α1 → α2 → α3 → α4 → α5 → α6 → α7 → Option τ} {m : Nat} {a0 : α0} {a1 : α1} {a2 : α2} {a3 : α3} {a4 : α4} {a5 : α5} {a6 : α6} {a7 : α7} {r : τ} (h : it8 F m a0 a1 a2 a3 a4 a5 a6 a7 = some r) : ∃ m0, m = m0 + 1 ∧ F (it8 F m0) a0 a1 a2 a3 a4 a5 a6 a7 = some r := by
  cases m with
  | zero => cases h
  | succ m => exact ⟨m, rfl, h⟩
def rc8 {α0 α1 α2 α3 α4 α5 α6 α7 τ : Type} (F : Nat → (α0 → α1 → α2 → α3 → α4 → α5 → α6 → α7 → Option τ) → α0 → α1 → α2 → α3 → α4 → α5 → α6 → α7 → Option τ) : Nat → α0 → α1 → α2 → α3 → α4 → α5 → α6 → α7 → Option τ
  | 0 => fun _ _ _ _ _ _ _ _ => none
  | m + 1 => F m (rc8 F m)
theorem rc8_s {α0 α1 α2 α3 α4 α5 α6 α7 τ : Type} {F : Nat → (α0 → α1 → α2 → α3 → α4 → α5 → α6 → α7 → Option τ) → α0 → α1 → α2 → α3 → α4 → α5 → α6 → α7 → Option τ} {m : Nat} {a0 : α0} {a1 : α1} {a2 : α2} {a3 : α3} {a4 : α4} {a5 : α5} {a6 : α6} {a7 : α7} {r : τ} (h : rc8 F (m + 1) a0 a1 a2 a3 a4 a5 a6 a7 = some r) : F m (rc8 F m) a0 a1 a2 a3 a4 a5 a6 a7 = some r := h
/-- behind 9 results -/
def ob9 {α0 α1 α2 α3 α4 α5 α6 α7 α8 τ : Type} (x : Option (α0 × α1 × α2 × α3 × α4 × α5 × α6 × α7 × α8)) (F : α0 → α1 → α2 → α3 → α4 → α5 → α6 → α7 → α8 → Option τ) : Option τ := match x with
  | none => none
  | some (a0, a1, a2, a3, a4, a5, a6, a7, a8) => F a0 a1 a2 a3 a4 a5 a6 a7 a8
theorem bd9 {α0 α1 α2 α3 α4 α5 α6 α7 α8 τ : Type} {x : Option (α0 × α1 × α2 × α3 × α4 × α5 × α6 × α7 × α8)} {F : α0 → α1 → α2 → α3 → α4 → α5 → α6 → α7 → α8 → Option τ} {r : τ} (h : ob9 x F = some r) : ∃ a0 a1 a2 a3 a4 a5 a6 a7 a8, x = some (a0, a1, a2, a3, a4, a5, a6, a7, a8) ∧ F a0 a1 a2 a3 a4 a5 a6 a7 a8 = some r := by
  cases x with
  | none => cases h
  | some p => obtain ⟨a0, a1, a2, a3, a4, a5, a6, a7, a8⟩ := p; exact ⟨a0, a1, a2, a3, a4, a5, a6, a7, a8, rfl, h⟩
@[simp] theorem ob9_some {α0 α1 α2 α3 α4 α5 α6 α7 α8 τ : Type} {a0 : α0} {a1 : α1} {a2 : α2} {a3 : α3} {a4 : α4} {a5 : α5} {a6 : α6} {a7 : α7} {a8 : α8} {F : α0 → α1 → α2 → α3 → α4 → α5 → α6 → α7 → α8 → Option τ} : ob9 (some (a0, a1, a2, a3, a4, a5, a6, a7, a8)) F = F a0 a1 a2 a3 a4 a5 a6 a7 a8 := rfl
def un9 {α0 α1 α2 α3 α4 α5 α6 α7 α8 τ : Type} (F : α0 → α1 → α2 → α3 → α4 → α5 → α6 → α7 → α8 → Option τ) : α0 × α1 × α2 × α3 × α4 × α5 × α6 × α7 × α8 → Option τ := fun (a0, a1, a2, a3, a4, a5, a6, a7, a8) => F a0 a1 a2 a3 a4 a5 a6 a7 a8
theorem pr9 {α0 α1 α2 α3 α4 α5 α6 α7 α8 : Type} {a0 : α0} {a1 : α1} {a2 : α2} {a3 : α3} {a4 : α4} {a5 : α5} {a6 : α6} {a7 : α7} {a8 : α8} {b0 : α0} {b1 : α1} {b2 : α2} {b3 : α3} {b4 : α4} {b5 : α5} {b6 : α6} {b7 : α7} {b8 : α8} (h : some (a0, a1, a2, a3, a4, a5, a6, a7, a8) = some (b0, b1, b2, b3, b4, b5, b6, b7, b8)) : a0 = b0 ∧ a1 = b1 ∧ a2 = b2 ∧ a3 = b3 ∧ a4 = b4 ∧ a5 = b5 ∧ a6 = b6 ∧ a7 = b7 ∧ a8 = b8 := by
  injection h with h
  simpa using h
/-- a loop of 9 variables by fuel -/
def it9 {α0 α1 α2 α3 α4 α5 α6 α7 α8 τ : Type} (F : (α0 → α1 → α2 → α3 → α4 → α5 → α6 → α7 → α8 → Option τ) → α0 → α1 → α2 → α3 → α4 → α5 → α6 → α7 → α8 → Option τ) : Nat → α0 → α1 → α2 → α3 → α4 → α5 → α6 → α7 → α8 → Option τ
  | 0 => fun _ _ _ _ _ _ _ _ _ => none
  | m + 1 => F (it9 F m)
theorem it9_s {α0 α1 α2 α3 α4 α5 α6 α7 α8 τ : Type} {F : (α0 → α1 → α2 → α3 → α4 → α5 → α6 → α7 → α8 → Option τ) → α0 → α1 → α2 → α3 → α4 → α5 → α6 → α7 → α8 → Option τ} {m : Nat} {a0 : α0} {a1 : α1} {a2 : α2} {a3 : α3} {a4 : α4} {a5 : α5} {a6 : α6} {a7 : α7} {a8 : α8} {r : τ} (h : it9 F m a0 a1 a2 a3 a4 a5 a6 a7 a8 = some r) : ∃ m0, m = m0 + 1 ∧ F (it9 F m0) a0 a1 a2 a3 a4 a5 a6 a7 a8 = some r := by
  cases m with
  | zero => cases h
  | succ m => exact ⟨m, rfl, h⟩
def rc9 {α0 α1 α2 α3 α4 α5 α6 α7 α8 τ : Type} (F : Nat → (α0 → α1 → α2 → α3 → α4 → α5 → α6 → α7 → α8 → Option τ) → α0 → α1 → α2 → α3 → α4 → α5 → α6 → α7 → α8 → Option τ) : Nat → α0 → α1 → α2 → α3 → α4 → α5 → α6 → α7 → α8 → Option τ
  | 0 => fun _ _ _ _ _ _ _ _ _ => none
  | m + 1 => F m (rc9 F m)
theorem rc9_s {α0 α1 α2 α3 α4 α5 α6 α7 α8 τ : Type} {F : Nat → (α0 → α1 → α2 → α3 → α4 → α5 → α6 → α7 → α8 → Option τ) → α0 → α1 → α2 → α3 → α4 → α5 → α6 → α7 → α8 → Option τ} {m : Nat} {a0 : α0} {a1 : α1} {a2 : α2} {a3 : α3} {a4 : α4} {a5 : α5} {a6 : α6} {a7 : α7} {a8 : α8} {r : τ} (h : rc9 F (m + 1) a0 a1 a2 a3 a4 a5 a6 a7 a8 = some r) : F m (rc9 F m) a0 a1 a2 a3 a4 a5 a6 a7 a8 = some r := h
/-- behind 10 results -/
def ob10 {α0 α1 α2 α3 α4 α5 α6 α7 α8 α9 τ : Type} (x : Option (α0 × α1 × α2 × α3 × α4 × α5 × α6 × α7 × α8 × α9)) (F : α0 → α1 → α2 → α3 → α4 → α5 → α6 → α7 → α8 → α9 → Option τ) : Option τ := match x with
  | none => none
  | some (a0, a1, a2, a3, a4, a5, a6, a7, a8, a9) => F a0 a1 a2 a3 a4 a5 a6 a7 a8 a9
theorem bd10 {α0 α1 α2 α3 α4 α5 α6 α7 α8 α9 τ : Type} {x : Option (α0 × α1 × α2 × α3 × α4 × α5 × α6 × α7 × α8 × α9)} {F : α0 → α1 → α2 → α3 → α4 → α5 → α6 → α7 → α8 → α9 → Option τ} {r : τ} (h : ob10 x F = some r) : ∃ a0 a1 a2 a3 a4 a5 a6 a7 a8 a9, x = some (a0, a1, a2, a3, a4, a5, a6, a7, a8, a9) ∧ F a0 a1 a2 a3 a4 a5 a6 a7 a8 a9 = some r := by
  cases x with
  | none => cases h
  | some p => obtain ⟨a0, a1, a2, a3, a4, a5, a6, a7, a8, a9⟩ := p; exact ⟨a0, a1, a2, a3, a4, a5, a6, a7, a8, a9, rfl, h⟩
@[simp] theorem ob10_some {α0 α1 α2 α3 α4 α5 α6 α7 α8 α9 τ : Type} {a0 : α0} {a1 : α1} {a2 : α2} {a3 : α3} {a4 : α4} {a5 : α5} {a6 : α6} {a7 : α7} {a8 : α8} {a9 : α9} {F : α0 → α1 → α2 → α3 → α4 → α5 → α6 → α7 → α8 → α9 → Option τ} : ob10 (some (a0, a1, a2, a3, a4, a5, a6, a7, a8, a9)) F = F a0 a1 a2 a3 a4 a5 a6 a7 a8 a9 := rfl
def un10 {α0 α1 α2 α3 α4 α5 α6 α7 α8 α9 τ : Type} (F : α0 → α1 → α2 → α3 → α4 → α5 → α6 → α7 → α8 → α9 → Option τ) : α0 × α1 × α2 × α3 × α4 × α5 × α6 × α7 × α8 × α9 → Option τ := fun (a0, a1, a2, a3, a4, a5, a6, a7, a8, a9) => F a0 a1 a2 a3 a4 a5 a6 a7 a8 a9
theorem pr10 {α0 α1 α2 α3 α4 α5 α6 α7 α8 α9 : Type} {a0 : α0} {a1 : α1} {a2 : α2} {a3 : α3} {a4 : α4} {a5 : α5} {a6 : α6} {a7 : α7} {a8 : α8} {a9 : α9} {b0 : α0} {b1 : α1} {b2 : α2} {b3 : α3} {b4 : α4} {b5 : α5} {b6 : α6} {b7 : α7} {b8 : α8} {b9 : α9} (h : some (a0, a1, a2, a3, a4, a5, a6, a7, a8, a9) = some (b0, b1, b2, b3, b4, b5, b6, b7, b8, b9)) : a0 = b0 ∧ a1 = b1 ∧ a2 = b2 ∧ a3 = b3 ∧ a4 = b4 ∧ a5 = b5 ∧ a6 = b6 ∧ a7 = b7 ∧ a8 = b8 ∧ a9 = b9 := by
  injection h with h
  simpa using h
/-- a loop of 10 variables by fuel -/
def it10 {α0 α1 α2 α3 α4 α5 α6 α7 α8 α9 τ : Type} (F : (α0 → α1 → α2 → α3 → α4 → α5 → α6 → α7 → α8 → α9 → Option τ) → α0 → α1 → α2 → α3 → α4 → α5 → α6 → α7 → α8 → α9 → Option τ) : Nat → α0 → α1 → α2 → α3 → α4 → α5 → α6 → α7 → α8 → α9 → Option τ
  | 0 => fun _ _ _ _ _ _ _ _ _ _ => none
  | m + 1 => F (it10 F m)
theorem it10_s {α0 α1 α2 α3 α4 α5 α6 α7 α8 α9 τ : Type} {F : (α0 → α1 → α2 → α3 → α4 → α5 → α6 → α7 → α8 → α9 → Option τ) → α0 → α1 → α2 → α3 → α4 → α5 → α6 → α7 → α8 → α9 → Option τ} {m : Nat} {a0 : α0} {a1 : α1} {a2 : α2} {a3 : α3} {a4 : α4} {a5 : α5} {a6 : α6} {a7 : α7} {a8 : α8} {a9 : α9} {r : τ} (h : it10 F m a0 a1 a2 a3 a4 a5 a6 a7 a8 a9 = some r) : ∃ m0, m = m0 + 1 ∧ F (it10 F m0) a0 a1 a2 a3 a4 a5 a6 a7 a8 a9 = some r := by
  cases m with
  | zero => cases h
  | succ m => exact ⟨m, rfl, h⟩
def rc10 {α0 α1 α2 α3 α4 α5 α6 α7 α8 α9 τ : Type} (F : Nat → (α0 → α1 → α2 → α3 → α4 → α5 → α6 → α7 → α8 → α9 → Option τ) → α0 → α1 → α2 → α3 → α4 → α5 → α6 → α7 → α8 → α9 → Option τ) : Nat → α0 → α1 → α2 → α3 → α4 → α5 → α6 → α7 → α8 → α9 → Option τ
  | 0 => fun _ _ _ _ _ _ _ _ _ _ => none
  | m + 1 => F m (rc10 F m)
theorem rc10_s {α0 α1 α2 α3 α4 α5 α6 α7 α8 α9 τ : Type} {F : Nat → (α0 → α1 → α2 → α3 → α4 → α5 → α6 → α7 → α8 → α9 → Option τ) → α0 → α1 → α2 → α3 → α4 → α5 → α6 → α7 → α8 → α9 → Option τ} {m : Nat} {a0 : α0} {a1 : α1} {a2 : α2} {a3 : α3} {a4 : α4} {a5 : α5} {a6 : α6} {a7 : α7} {a8 : α8} {a9 : α9} {r : τ} (h : rc10 F (m + 1) a0 a1 a2 a3 a4 a5 a6 a7 a8 a9 = some r) : F m (rc10 F m) a0 a1 a2 a3 a4 a5 a6 a7 a8 a9 = some r := h
/-- behind 11 results -/
def ob11 {α0 α1 α2 α3 α4 α5 α6 α7 α8 α9 α10 τ : Type} (x : Option (α0 × α1 × α2 × α3 × α4 × α5 × α6 × α7 × α8 × α9 × α10)) (F : α0 → α1 → α2 → α3 → α4 → α5 → α6 → α7 → α8 → α9 → α10 → Option τ) : Option τ := match x with
  | none => none
  | some (a0, a1, a2, a3, a4, a5, a6, a7, a8, a9, a10) => F a0 a1 a2 a3 a4 a5 a6 a7 a8 a9 a10
theorem bd11 {α0 α1 α2 α3 α4 α5 α6 α7 α8 α9 α10 τ : Type} {x : Option (α0 × α1 × α2 × α3 × α4 × α5 × α6 × α7 × α8 × α9 × α10)} {F : α0 → α1 → α2 → α3 → α4 → α5 → α6 → α7 → α8 → α9 → α10 → Option τ} {r : τ} (h : ob11 x F = some r) : ∃ a0 a1 a2 a3 a4 a5 a6 a7 a8 a9 a10, x = some (a0, a1, a2, a3, a4, a5, a6, a7, a8, a9, a10) ∧ F a0 a1 a2 a3 a4 a5 a6 a7 a8 a9 a10 = some r := by
  cases x with
  | none => cases h
  | some p => obtain ⟨a0, a1, a2, a3, a4, a5, a6, a7, a8, a9, a10⟩ := p; exact ⟨a0, a1, a2, a3, a4, a5, a6, a7, a8, a9, a10, rfl, h⟩
@[simp] theorem ob11_some {α0 α1 α2 α3 α4 α5 α6 α7 α8 α9 α10 τ : Type} {a0 : α0} {a1 : α1} {a2 : α2} {a3 : α3} {a4 : α4} {a5 : α5} {a6 : α6} {a7 : α7} {a8 : α8} {a9 : α9} {a10 : α10} {F : α0 → α1 → α2 → α3 → α4 → α5 → α6 → α7 → α8 → α9 → α10 → Option τ} : ob11 (some (a0, a1, a2, a3, a4, a5, a6, a7, a8, a9, a10)) F = F a0 a1 a2 a3 a4 a5 a6 a7 a8 a9 a10 := rfl
def un11 {α0 α1 α2 α3 α4 α5 α6 α7 α8 α9 α10 τ : Type} (F : α0 → α1 → α2 → α3 → α4 → α5 → α6 → α7 → α8 → α9 → α10 → Option τ) : α0 × α1 × α2 × α3 × α4 × α5 × α6 × α7 × α8 × α9 × α10 → Option τ := fun (a0, a1, a2, a3, a4, a5, a6, a7, a8, a9, a10) => F a0 a1 a2 a3 a4 a5 a6 a7 a8 a9 a10
theorem pr11 {α0 α1 α2 α3 α4 α5 α6 α7 α8 α9 α10 : Type} {a0 : α0} {a1 : α1} {a2 : α2} {a3 : α3} {a4 : α4} {a5 : α5} {a6 : α6} {a7 : α7} {a8 : α8} {a9 : α9} {a10 : α10} {b0 : α0} {b1 : α1} {b2 : α2} {b3 : α3} {b4 : α4} {b5 : α5} {b6 : α6} {b7 : α7} {b8 : α8} {b9 : α9} {b10 : α10} (h : some (a0, a1, a2, a3, a4, a5, a6, a7, a8, a9, a10) = some (b0, b1, b2, b3, b4, b5, b6, b7, b8, b9, b10)) : a0 = b0 ∧ a1 = b1 ∧ a2 = b2 ∧ a3 = b3 ∧ a4 = b4 ∧ a5 = b5 ∧ a6 = b6 ∧ a7 = b7 ∧ a8 = b8 ∧ a9 = b9 ∧ a10 = b10 := by
  injection h with h
  simpa using h
/-- a loop of 11 variables by fuel -/
def it11 {α0 α1 α2 α3 α4 α5 α6 α7 α8 α9 α10 τ : Type} (F : (α0 → α1 → α2 → α3 → α4 → α5 → α6 → α7 → α8 → α9 → α10 → Option τ) → α0 → α1 → α2 → α3 → α4 → α5 → α6 → α7 → α8 → α9 → α10 → Option τ) : Nat → α0 → α1 → α2 → α3 → α4 → α5 → α6 → α7 → α8 → α9 → α10 → Option τ
  | 0 => fun _ _ _ _ _ _ _ _ _ _ _ => none
  | m + 1 => F (it11 F m)
theorem it11_s {α0 α1 α2 α3 α4 α5 α6 α7 α8 α9 α10 τ : Type} {F : (α0 → α1 → α2 → α3 → α4 → α5 → α6 → α7 → α8 → α9 → α10 → Option τ) → α0 → α1 → α2 → α3 → α4 → α5 → α6 → α7 → α8 → α9 → α10 → Option τ} {m : Nat} {a0 : α0} {a1 : α1} {a2 : α2} {a3 : α3} {a4 : α4} {a5 : α5} {a6 : α6} {a7 : α7} {a8 : α8} {a9 : α9} {a10 : α10} {r : τ} (h : it11 F m a0 a1 a2 a3 a4 a5 a6 a7 a8 a9 a10 = some r) : ∃ m0, m = m0 + 1 ∧ F (it11 F m0) a0 a1 a2 a3 a4 a5 a6 a7 a8 a9 a10 = some r := by
  cases m with
  | zero => cases h
  | succ m => exact ⟨m, rfl, h⟩
def rc11 {α0 α1 α2 α3 α4 α5 α6 α7 α8 α9 α10 τ : Type} (F : Nat → (α0 → α1 → α2 → α3 → α4 → α5 → α6 → α7 → α8 → α9 → α10 → Option τ) → α0 → α1 → α2 → α3 → α4 → α5 → α6 → α7 → α8 → α9 → α10 → Option τ) : Nat → α0 → α1 → α2 → α3 → α4 → α5 → α6 → α7 → α8 → α9 → α10 → Option τ
  | 0 => fun _ _ _ _ _ _ _ _ _ _ _ => none
  | m + 1 => F m (rc11 F m)
theorem rc11_s {α0 α1 α2 α3 α4 α5 α6 α7 α8 α9 α10 τ : Type} {F : Nat → (α0 → α1 → α2 → α3 → α4 → α5 → α6 → α7 → α8 → α9 → α10 → Option τ) → α0 → α1 → α2 → α3 → α4 → α5 → α6 → α7 → α8 → α9 → α10 → Option τ} {m : Nat} {a0 : α0} {a1 : α1} {a2 : α2} {a3 : α3} {a4 : α4} {a5 : α5} {a6 : α6} {a7 : α7} {a8 : α8} {a9 : α9} {a10 : α10} {r : τ} (h : rc11 F (m + 1) a0 a1 a2 a3 a4 a5 a6 a7 a8 a9 a10 = some r) : F m (rc11 F m) a0 a1 a2 a3 a4 a5 a6 a7 a8 a9 a10 = some r := h
/-- behind 12 results -/
def ob12 {α0 α1 α2 α3 α4 α5 α6 α7 α8 α9 α10 α11 τ : Type} (x : Option (α0 × α1 × α2 × α3 × α4 × α5 × α6 × α7 × α8 × α9 × α10 × α11)) (F : α0 → α1 → α2 → α3 → α4 → α5 → α6 → α7 → α8 → α9 → α10 → α11 → Option τ) : Option τ := match x with
  | none => none
  | some (a0, a1, a2, a3, a4, a5, a6, a7, a8, a9, a10, a11) => F a0 a1 a2 a3 a4 a5 a6 a7 a8 a9 a10 a11
theorem bd12 {α0 α1 α2 α3 α4 α5 α6 α7 α8 α9 α10 α11 τ : Type} {x : Option (α0 × α1 × α2 × α3 × α4 × α5 × α6 × α7 × α8 × α9 × α10 × α11)} {F : α0 → α1 → α2 → α3 → α4 → α5 → α6 → α7 → α8 → α9 → α10 → α11 → Option τ} {r : τ} (h : ob12 x F = some r) : ∃ a0 a1 a2 a3 a4 a5 a6 a7 a8 a9 a10 a11, x = some (a0, a1, a2, a3, a4, a5, a6, a7, a8, a9, a10, a11) ∧ F a0 a1 a2 a3 a4 a5 a6 a7 a8 a9 a10 a11 = some r := by
  cases x with
  | none => cases h
  | some p => obtain ⟨a0, a1, a2, a3, a4, a5, a6, a7, a8, a9, a10, a11⟩ := p; exact ⟨a0, a1, a2, a3, a4, a5, a6, a7, a8, a9, a10, a11, rfl, h⟩
@[simp] theorem ob12_some {α0 α1 α2 α3 α4 α5 α6 α7 α8 α9 α10 α11 τ : Type} {a0 : α0} {a1 : α1} {a2 : α2} {a3 : α3} {a4 : α4} {a5 : α5} {a6 : α6} {a7 : α7} {a8 : α8} {a9 : α9} {a10 : α10} {a11 : α11} {F : α0 → α1 → α2 → α3 → α4 → α5 → α6 → α7 → α8 → α9 → α10 → α11 → Option τ} : ob12 (some (a0, a1, a2, a3, a4, a5, a6, a7, a8, a9, a10, a11)) F = F a0 a1 a2 a3 a4 a5 a6 a7 a8 a9 a10 a11 := rfl
def un12 {α0 α1 α2 α3 α4 α5 α6 α7 α8 α9 α10 α11 τ : Type} (F : α0 → α1 → α2 → α3 → α4 → α5 → α6 → α7 → α8 → α9 → α10 → α11 → Option τ) : α0 × α1 × α2 × α3 × α4 × α5 × α6 × α7 × α8 × α9 × α10 × α11 → Option τ := fun (a0, a1, a2, a3, a4, a5, a6, a7, a8, a9, a10, a11) => F a0 a1 a2 a3 a4 a5 a6 a7 a8 a9 a10 a11
theorem pr12 {α0 α1 α2 α3 α4 α5 α6 α7 α8 α9 α10 α11 : Type} {a0 : α0} {a1 : α1} {a2 : α2} {a3 : α3} {a4 : α4} {a5 : α5} {a6 : α6} {a7 : α7} {a8 : α8} {a9 : α9} {a10 : α10} {a11 : α11} {b0 : α0} {b1 : α1} {b2 : α2} {b3 : α3} {b4 : α4} {b5 : α5} {b6 : α6} {b7 : α7} {b8 : α8} {b9 : α9} {b10 : α10} {b11 : α11} (h : some (a0, a1, a2, a3, a4, a5, a6, a7, a8, a9, a10, a11) = some (b0, b1, b2, b3, b4, b5, b6, b7, b8, b9, b10, b11)) : a0 = b0 ∧ a1 = b1 ∧ a2 = b2 ∧ a3 = b3 ∧ a4 = b4 ∧ a5 = b5 ∧ a6 = b6 ∧ a7 = b7 ∧ a8 = b8 ∧ a9 = b9 ∧ a10 = b10 ∧ a11 = b11 := by
  injection h with h
  simpa using h
/-- a loop of 12 variables by fuel -/
def it12 {α0 α1 α2 α3 α4 α5 α6 α7 α8 α9 α10 α11 τ : Type} (F : (α0 → α1 → α2 → α3 → α4 → α5 → α6 → α7 → α8 → α9 → α10 → α11 → Option τ) → α0 → α1 → α2 → α3 → α4 → α5 → α6 → α7 → α8 → α9 → α10 → α11 → Option τ) : Nat → α0 → α1 → α2 → α3 → α4 → α5 → α6 → α7 → α8 → α9 → α10 → α11 → Option τ
  | 0 => fun _ _ _ _ _ _ _ _ _ _ _ _ => none
  | m + 1 => F (it12 F m)
theorem it12_s {α0 α1 α2 α3 α4 α5 α6 α7 α8 α9 α10 α11 τ : Type} {F : (α0 → α1 → α2 → α3 → α4 → α5 → α6 → α7 → α8 → α9 → α10 → α11 → Option τ) → α0 → α1 → α2 → α3 → α4 → α5 → α6 → α7 → α8 → α9 → α10 → α11 → Option τ} {m : Nat} {a0 : α0} {a1 : α1} {a2 : α2} {a3 : α3} {a4 : α4} {a5 : α5} {a6 : α6} {a7 : α7} {a8 : α8} {a9 : α9} {a10 : α10} {a11 : α11} {r : τ} (h : it12 F m a0 a1 a2 a3 a4 a5 a6 a7 a8 a9 a10 a11 = some r) : ∃ m0, m = m0 + 1 ∧ F (it12 F m0) a0 a1 a2 a3 a4 a5 a6 a7 a8 a9 a10 a11 = some r := by
  cases m with
  | zero => cases h
  | succ m => exact ⟨m, rfl, h⟩
def rc12 {α0 α1 α2 α3 α4 α5 α6 α7 α8 α9 α10 α11 τ : Type} (F : Nat → (α0 → α1 → α2 → α3 → α4 → α5 → α6 → α7 → α8 → α9 → α10 → α11 → Option τ) → α0 → α1 → α2 → α3 → α4 → α5 → α6 → α7 → α8 → α9 → α10 → α11 → Option τ) : Nat → α0 → α1 → α2 → α3 → α4 → α5 → α6 → α7 → α8 → α9 → α10 → α11 → Option τ
  | 0 => fun _ _ _ _ _ _ _ _ _ _ _ _ => none
  | m + 1 => F m (rc12 F m)
theorem rc12_s {α0 α1 α2 α3 α4 α5 α6 α7 α8 α9 α10 α11 τ : Type} {F : Nat → (α0 → α1 → α2 → α3 → α4 → α5 → α6 → α7 → α8 → α9 → α10 → α11 → Option τ) → α0 → α1 → α2 → α3 → α4 → α5 → α6 → α7 → α8 → α9 → α10 → α11 → Option τ} {m : Nat} {a0 : α0} {a1 : α1} {a2 : α2} {a3 : α3} {a4 : α4} {a5 : α5} {a6 : α6} {a7 : α7} {a8 : α8} {a9 : α9} {a10 : α10} {a11 : α11} {r : τ} (h : rc12 F (m + 1) a0 a1 a2 a3 a4 a5 a6 a7 a8 a9 a10 a11 = some r) : F m (rc12 F m) a0 a1 a2 a3 a4 a5 a6 a7 a8 a9 a10 a11 = some r := h
/-- behind 13 results -/
def ob13 {α0 α1 α2 α3 α4 α5 α6 α7 α8 α9 α10 α11 α12 τ : Type} (x : Option (α0 × α1 × α2 × α3 × α4 × α5 × α6 × α7 × α8 × α9 × α10 × α11 × α12)) (F : α0 → α1 → α2 → α3 → α4 → α5 → α6 → α7 → α8 → α9 → α10 → α11 → α12 → Option τ) : Option τ := match x with
  | none => none
  | some (a0, a1, a2, a3, a4, a5, a6, a7, a8, a9, a10, a11, a12) => F a0 a1 a2 a3 a4 a5 a6 a7 a8 a9 a10 a11 a12
theorem bd13 {α0 α1 α2 α3 α4 α5 α6 α7 α8 α9 α10 α11 α12 τ : Type} {x : Option (α0 × α1 × α2 × α3 × α4 × α5 × α6 × α7 × α8 × α9 × α10 × α11 × α12)} {F : α0 → α1 → α2 → α3 → α4 → α5 → α6 → α7 → α8 → α9 → α10 → α11 → α12 → Option τ} {r : τ} (h : ob13 x F = some r) : ∃ a0 a1 a2 a3 a4 a5 a6 a7 a8 a9 a10 a11 a12, x = some (a0, a1, a2, a3, a4, a5, a6, a7, a8, a9, a10, a11, a12) ∧ F a0 a1 a2 a3 a4 a5 a6 a7 a8 a9 a10 a11 a12 = some r := by
  cases x with
  | none => cases h
  | some p => obtain ⟨a0, a1, a2, a3, a4, a5, a6, a7, a8, a9, a10, a11, a12⟩ := p; exact ⟨a0, a1, a2, a3, a4, a5, a6, a7, a8, a9, a10, a11, a12, rfl, h⟩
@[simp] theorem ob13_some {α0 α1 α2 α3 α4 α5 α6 α7 α8 α9 α10 α11 α12 τ : Type} {a0 : α0} {a1 : α1} {a2 : α2} {a3 : α3} {a4 : α4} {a5 : α5} {a6 : α6} {a7 : α7} {a8 : α8} {a9 : α9} {a10 : α10} {a11 : α11} {a12 : α12} {F : α0 → α1 → α2 → α3 → α4 → α5 → α6 → α7 → α8 → α9 → α10 → α11 → α12 → Option τ} : ob13 (some (a0, a1, a2, a3, a4, a5, a6, a7, a8, a9, a10, a11, a12)) F = F a0 a1 a2 a3 a4 a5 a6 a7 a8 a9 a10 a11 a12 := rfl
def un13 {α0 α1 α2 α3 α4 α5 α6 α7 α8 α9 α10 α11 α12 τ : Type} (F : α0 → α1 → α2 → α3 → α4 → α5 → α6 → α7 → α8 → α9 → α10 → α11 → α12 → Option τ) : α0 × α1 × α2 × α3 × α4 × α5 × α6 × α7 × α8 × α9 × α10 × α11 × α12 → Option τ := fun (a0, a1, a2, a3, a4, a5, a6, a7, a8, a9, a10, a11, a12) => F a0 a1 a2 a3 a4 a5 a6 a7 a8 a9 a10 a11 a12
theorem pr13 {α0 α1 α2 α3 α4 α5 α6 α7 α8 α9 α10 α11 α12 : Type} {a0 : α0} {a1 : α1} {a2 : α2} {a3 : α3} {a4 : α4} {a5 : α5} {a6 : α6} {a7 : α7} {a8 : α8} {a9 : α9} {a10 : α10} {a11 : α11} {a12 : α12} {b0 : α0} {b1 : α1} {b2 : α2} {b3 : α3} {b4 : α4} {b5 : α5} {b6 : α6} {b7 : α7} {b8 : α8} {b9 : α9} {b10 : α10} {b11 : α11} {b12 : α12} (h : some (a0, a1, a2, a3, a4, a5, a6, a7, a8, a9, a10, a11, a12) = some (b0, b1, b2, b3, b4, b5, b6, b7, b8, b9, b10, b11, b12)) : a0 = b0 ∧ a1 = b1 ∧ a2 = b2 ∧ a3 = b3 ∧ a4 = b4 ∧ a5 = b5 ∧ a6 = b6 ∧ a7 = b7 ∧ a8 = b8 ∧ a9 = b9 ∧ a10 = b10 ∧ a11 = b11 ∧ a12 = b12 := by
  injection h with h
  simpa using h
/-- a loop of 13 variables by fuel -/
def it13 {α0 α1 α2 α3 α4 α5 α6 α7 α8 α9 α10 α11 α12 τ : Type} (F : (α0 → α1 → α2 → α3 → α4 → α5 → α6 → α7 → α8 → α9 → α10 → α11 → α12 → Option τ) → α0 → α1 → α2 → α3 → α4 → α5 → α6 → α7 → α8 → α9 → α10 → α11 → α12 → Option τ) : Nat → α0 → α1 → α2 → α3 → α4 → α5 → α6 → α7 → α8 → α9 → α10 → α11 → α12 → Option τ
  | 0 => fun _ _ _ _ _ _ _ _ _ _ _ _ _ => none
  | m + 1 => F (it13 F m)
theorem it13_s {α0 α1 α2 α3 α4 α5 α6 α7 α8 α9 α10 α11 α12 τ : Type} {F : (α0 → α1 → α2 → α3 → α4 → α5 → α6 → α7 → α8 → α9 → α10 → α11 → α12 → Option τ) → α0 → α1 → α2 → α3 → α4 → α5 → α6 → α7 → α8 → α9 → α10 → α11 → α12 → Option τ} {m : Nat} {a0 : α0} {a1 : α1} {a2 : α2} {a3 : α3} {a4 : α4} {a5 : α5} {a6 : α6} {a7 : α7} {a8 : α8} {a9 : α9} {a10 : α10} {a11 : α11} {a12 : α12} {r : τ} (h : it13 F m a0 a1 a2 a3 a4 a5 a6 a7 a8 a9 a10 a11 a12 = some r) : ∃ m0, m = m0 + 1 ∧ F (it13 F m0) a0 a1 a2 a3 a4 a5 a6 a7 a8 a9 a10 a11 a12 = some r := by
  cases m with
  | zero => cases h
  | succ m => exact ⟨m, rfl, h⟩
def rc13 {α0 α1 α2 α3 α4 α5 α6 α7 α8 α9 α10 α11 α12 τ : Type} (F : Nat → (α0 → α1 → α2 → α3 → α4 → α5 → α6 → α7 → α8 → α9 → α10 → α11 → α12 → Option τ) → α0 → α1 → α2 → α3 → α4 → α5 → α6 → α7 → α8 → α9 → α10 → α11 → α12 → Option τ) : Nat → α0 → α1 → α2 → α3 → α4 → α5 → α6 → α7 → α8 → α9 → α10 → α11 → α12 → Option τ
  | 0 => fun _ _ _ _ _ _ _ _ _ _ _ _ _ => none
  | m + 1 => F m (rc13 F m)
theorem rc13_s {α0 α1 α2 α3 α4 α5 α6 α7 α8 α9 α10 α11 α12 τ : Type} {F : Nat → (α0 → α1 → α2 → α3 → α4 → α5 → α6 → α7 → α8 → α9 → α10 → α11 → α12 → Option τ) → α0 → α1 → α2 → α3 → α4 → α5 → α6 → α7 → α8 → α9 → α10 → α11 → α12 → Option τ} {m : Nat} {a0 : α0} {a1 : α1} {a2 : α2} {a3 : α3} {a4 : α4} {a5 : α5} {a6 : α6} {a7 : α7} {a8 : α8} {a9 : α9} {a10 : α10} {a11 : α11} {a12 : α12} {r : τ} (h : rc13 F (m + 1) a0 a1 a2 a3 a4 a5 a6 a7 a8 a9 a10 a11 a12 = some r) : F m (rc13 F m) a0 a1 a2 a3 a4 a5 a6 a7 a8 a9 a10 a11 a12 = some r := h
/-- behind 14 results -/
def ob14 {α0 α1 α2 α3 α4 α5 α6 α7 α8 α9 α10 α11 α12 α13 τ : Type} (x : Option (α0 × α1 × α2 × α3 × α4 × α5 × α6 × α7 × α8 × α9 × α10 × α11 × α12 × α13)) (F : α0 → α1 → α2 → α3 → α4 → α5 → α6 → α7 → α8 → α9 → α10 → α11 → α12 → α13 → Option τ) : Option τ := match x with
  | none => none
  | some (a0, a1, a2, a3, a4, a5, a6, a7, a8, a9, a10, a11, a12, a13) => F a0 a1 a2 a3 a4 a5 a6 a7 a8 a9 a10 a11 a12 a13
theorem bd14 {α0 α1 α2 α3 α4 α5 α6 α7 α8 α9 α10 α11 α12 α13 τ : Type} {x : Option (α0 × α1 × α2 × α3 × α4 × α5 × α6 × α7 × α8 × α9 × α10 × α11 × α12 × α13)} {F : α0 → α1 → α2 → α3 → α4 → α5 → α6 → α7 → α8 → α9 → α10 → α11 → α12 → α13 → Option τ} {r : τ} (h : ob14 x F = some r) : ∃ a0 a1 a2 a3 a4 a5 a6 a7 a8 a9 a10 a11 a12 a13, x = some (a0, a1, a2, a3, a4, a5, a6, a7, a8, a9, a10, a11, a12, a13) ∧ F a0 a1 a2 a3 a4 a5 a6 a7 a8 a9 a10 a11 a12 a13 = some r := by
  cases x with
  | none => cases h
  | some p => obtain ⟨a0, a1, a2, a3, a4, a5, a6, a7, a8, a9, a10, a11, a12, a13⟩ := p; exact ⟨a0, a1, a2, a3, a4, a5, a6, a7, a8, a9, a10, a11, a12, a13, rfl, h⟩
@[simp] theorem ob14_some {α0 α1 α2 α3 α4 α5 α6 α7 α8 α9 α10 α11 α12 α13 τ : Type} {a0 : α0} {a1 : α1} {a2 : α2} {a3 : α3} {a4 : α4} {a5 : α5} {a6 : α6} {a7 : α7} {a8 : α8} {a9 : α9} {a10 : α10} {a11 : α11} {a12 : α12} {a13 : α13} {F : α0 → α1 → α2 → α3 → α4 → α5 → α6 → α7 → α8 → α9 → α10 → α11 → α12 → α13 → Option τ} : ob14 (some (a0, a1, a2, a3, a4, a5, a6, a7, a8, a9, a10, a11, a12, a13)) F = F a0 a1 a2 a3 a4 a5 a6 a7 a8 a9 a10 a11 a12 a13 := rfl
def un14 {α0 α1 α2 α3 α4 α5 α6 α7 α8 α9 α10 α11 α12 α13 τ : Type} (F : α0 → α1 → α2 → α3 → α4 → α5 → α6 → α7 → α8 → α9 → α10 → α11 → α12 → α13 → Option τ) : α0 × α1 × α2 × α3 × α4 × α5 × α6 × α7 × α8 × α9 × α10 × α11 × α12 × α13 → Option τ := fun (a0, a1, a2, a3, a4, a5, a6, a7, a8, a9, a10, a11, a12, a13) => F a0 a1 a2 a3 a4 a5 a6 a7 a8 a9 a10 a11 a12 a13
theorem pr14 {α0 α1 α2 α3 α4 α5 α6 α7 α8 α9 α10 α11 α12 α13 : Type} {a0 : α0} {a1 : α1} {a2 : α2} {a3 : α3} {a4 : α4} {a5 : α5} {a6 : α6} {a7 : α7} {a8 : α8} {a9 : α9} {a10 : α10} {a11 : α11} {a12 : α12} {a13 : α13} {b0 : α0} {b1 : α1} {b2 : α2} {b3 : α3} {b4 : α4} {b5 : α5} {b6 : α6} {b7 : α7} {b8 : α8} {b9 : α9} {b10 : α10} {b11 : α11} {b12 : α12} {b13 : α13} (h : some (a0, a1, a2, a3, a4, a5, a6, a7, a8, a9, a10, a11, a12, a13) = some (b0, b1, b2, b3, b4, b5, b6, b7, b8, b9, b10, b11, b12, b13)) : a0 = b0 ∧ a1 = b1 ∧ a2 = b2 ∧ a3 = b3 ∧ a4 = b4 ∧ a5 = b5 ∧ a6 = b6 ∧ a7 = b7 ∧ a8 = b8 ∧ a9 = b9 ∧ a10 = b10 ∧ a11 = b11 ∧ a12 = b12 ∧ a13 = b13 := by
  injection h with h
  simpa using h
/-- a loop of 14 variables by fuel -/
def it14 {α0 α1 α2 α3 α4 α5 α6 α7 α8 α9 α10 α11 α12 α13 τ : Type} (F : (α0 → α1 → α2 → α3 → α4 → α5 → α6 → α7 → α8 → α9 → α10 → α11 → α12 → α13 → Option τ) → α0 → α1 → α2 → α3 → α4 → α5 → α6 → α7 → α8 → α9 → α10 → α11 → α12 → α13 → Option τ) : Nat → α0 → α1 → α2 → α3 → α4 → α5 → α6 → α7 → α8 → α9 → α10 → α11 → α12 → α13 → Option τ
  | 0 => fun _ _ _ _ _ _ _ _ _ _ _ _ _ _ => none
  | m + 1 => F (it14 F m)
theorem it14_s {α0 α1 α2 α3 α4 α5 α6 α7 α8 α9 α10 α11 α12 α13 τ : Type} {F : (α0 → α1 → α2 → α3 → α4 → α5 → α6 → α7 → α8 → α9 → α10 → α11 → α12 → α13 → Option τ) → α0 → α1 → α2 → α3 → α4 → α5 → α6 → α7 → α8 → α9 → α10 → α11 → α12 → α13 → Option τ} {m : Nat} {a0 : α0} {a1 : α1} {a2 : α2} {a3 : α3} {a4 : α4} {a5 : α5} {a6 : α6} {a7 : α7} {a8 : α8} {a9 : α9} {a10 : α10} {a11 : α11} {a12 : α12} {a13 : α13} {r : τ} (h : it14 F m a0 a1 a2 a3 a4 a5 a6 a7 a8 a9 a10 a11 a12 a13 = some r) : ∃ m0, m = m0 + 1 ∧ F (it14 F m0) a0 a1 a2 a3 a4 a5 a6 a7 a8 a9 a10 a11 a12 a13 = some r := by
  cases m with
  | zero => cases h
  | succ m => exact ⟨m, rfl, h⟩
def rc14 {α0 α1 α2 α3 α4 α5 α6 α7 α8 α9 α10 α11 α12 α13 τ : Type} (F : Nat → (α0 → α1 → α2 → α3 → α4 → α5 → α6 → α7 → α8 → α9 → α10 → α11 → α12 → α13 → Option τ) → α0 → α1 → α2 → α3 → α4 → α5 → α6 → α7 → α8 → α9 → α10 → α11 → α12 → α13 → Option τ) : Nat → α0 → α1 → α2 → α3 → α4 → α5 → α6 → α7 → α8 → α9 → α10 → α11 → α12 → α13 → Option τ
  | 0 => fun _ _ _ _ _ _ _ _ _ _ _ _ _ _ => none
  | m + 1 => F m (rc14 F m)
theorem rc14_s {α0 α1 α2 α3 α4 α5 α6 α7 α8 α9 α10 α11 α12 α13 τ : Type} {F : Nat → (α0 → α1 → α2 → α3 → α4 → α5 → α6 → α7 → α8 → α9 → α10 → α11 → α12 → α13 → Option τ) → α0 → α1 → α2 → α3 → α4 → α5 → α6 → α7 → α8 → α9 → α10 → α11 → α12 → α13 → Option τ} {m : Nat} {a0 : α0} {a1 : α1} {a2 : α2} {a3 : α3} {a4 : α4} {a5 : α5} {a6 : α6} {a7 : α7} {a8 : α8} {a9 : α9} {a10 : α10} {a11 : α11} {a12 : α12} {a13 : α13} {r : τ} (h : rc14 F (m + 1) a0 a1 a2 a3 a4 a5 a6 a7 a8 a9 a10 a11 a12 a13 = some r) : F m (rc14 F m) a0 a1 a2 a3 a4 a5 a6 a7 a8 a9 a10 a11 a12 a13 = some r := h
/-- behind 15 results -/
def ob15 {α0 α1 α2 α3 α4 α5 α6 α7 α8 α9 α10 α11 α12 α13 α14 τ : Type} (x : Option (α0 × α1 × α2 × α3 × α4 × α5 × α6 × α7 × α8 × α9 × α10 × α11 × α12 × α13 × α14)) (F : α0 → α1 → α2 → α3 → α4 → α5 → α6 → α7 → α8 → α9 → α10 → α11 → α12 → α13 → α14 → Option τ) : Option τ := match x with
  | none => none
  | some (a0, a1, a2, a3, a4, a5, a6, a7, a8, a9, a10, a11, a12, a13, a14) => F a0 a1 a2 a3 a4 a5 a6 a7 a8 a9 a10 a11 a12 a13 a14
theorem bd15 {α0 α1 α2 α3 α4 α5 α6 α7 α8 α9 α10 α11 α12 α13 α14 τ : Type} {x : Option (α0 × α1 × α2 × α3 × α4 × α5 × α6 × α7 × α8 × α9 × α10 × α11 × α12 × α13 × α14)} {F : α0 → α1 → α2 → α3 → α4 → α5 → α6 → α7 → α8 → α9 → α10 → α11 → α12 → α13 → α14 → Option τ} {r : τ} (h : ob15 x F = some r) : ∃ a0 a1 a2 a3 a4 a5 a6 a7 a8 a9 a10 a11 a12 a13 a14, x = some (a0, a1, a2, a3, a4, a5, a6, a7, a8, a9, a10, a11, a12, a13, a14) ∧ F a0 a1 a2 a3 a4 a5 a6 a7 a8 a9 a10 a11 a12 a13 a14 = some r := by
  cases x with
  | none => cases h
  | some p => obtain ⟨a0, a1, a2, a3, a4, a5, a6, a7, a8, a9, a10, a11, a12, a13, a14⟩ := p; exact ⟨a0, a1, a2, a3, a4, a5, a6, a7, a8, a9, a10, a11, a12, a13, a14, rfl, h⟩
@[simp] theorem ob15_some {α0 α1 α2 α3 α4 α5 α6 α7 α8 α9 α10 α11 α12 α13 α14 τ : Type} {a0 : α0} {a1 : α1} {a2 : α2} {a3 : α3} {a4 : α4} {a5 : α5} {a6 : α6} {a7 : α7} {a8 : α8} {a9 : α9} {a10 : α10} {a11 : α11} {a12 : α12} {a13 : α13} {a14 : α14} {F : α0 → α1 → α2 → α3 → α4 → α5 → α6 → α7 → α8 → α9 → α10 → α11 → α12 → α13 → α14 → Option τ} : ob15 (some (a0, a1, a2, a3, a4, a5, a6, a7, a8, a9, a10, a11, a12, a13, a14)) F = F a0 a1 a2 a3 a4 a5 a6 a7 a8 a9 a10 a11 a12 a13 a14 := rfl
def un15 {α0 α1 α2 α3 α4 α5 α6 α7 α8 α9 α10 α11 α12 α13 α14 τ : Type} (F : α0 → α1 → α2 → α3 → α4 → α5 → α6 → α7 → α8 → α9 → α10 → α11 → α12 → α13 → α14 → Option τ) : α0 × α1 × α2 × α3 × α4 × α5 × α6 × α7 × α8 × α9 × α10 × α11 × α12 × α13 × α14 → Option τ := fun (a0, a1, a2, a3, a4, a5, a6, a7, a8, a9, a10, a11, a12, a13, a14) => F a0 a1 a2 a3 a4 a5 a6 a7 a8 a9 a10 a11 a12 a13 a14
theorem pr15 {α0 α1 α2 α3 α4 α5 α6 α7 α8 α9 α10 α11 α12 α13 α14 : Type} {a0 : α0} {a1 : α1} {a2 : α2} {a3 : α3} {a4 : α4} {a5 : α5} {a6 : α6} {a7 : α7} {a8 : α8} {a9 : α9} {a10 : α10} {a11 : α11} {a12 : α12} {a13 : α13} {a14 : α14} {b0 : α0} {b1 : α1} {b2 : α2} {b3 : α3} {b4 : α4} {b5 : α5} {b6 : α6} {b7 : α7} {b8 : α8} {b9 : α9} {b10 : α10} {b11 : α11} {b12 : α12} {b13 : α13} {b14 : α14} (h : some (a0, a1, a2, a3, a4, a5, a6, a7, a8, a9, a10, a11, a12, a13, a14) = some (b0, b1, b2, b3, b4, b5, b6, b7, b8, b9, b10, b11, b12, b13, b14)) : a0 = b0 ∧ a1 = b1 ∧ a2 = b2 ∧ a3 = b3 ∧ a4 = b4 ∧ a5 = b5 ∧ a6 = b6 ∧ a7 = b7 ∧ a8 = b8 ∧ a9 = b9 ∧ a10 = b10 ∧ a11 = b11 ∧ a12 = b12 ∧ a13 = b13 ∧ a14 = b14 := by
  injection h with h
  simpa using h
/-- a loop of 15 variables by fuel -/
def it15 {α0 α1 α2 α3 α4 α5 α6 α7 α8 α9 α10 α11 α12 α13 α14 τ : Type} (F : (α0 → α1 → α2 → α3 → α4 → α5 → α6 → α7 → α8 → α9 → α10 → α11 → α12 → α13 → α14 → Option τ) → α0 → α1 → α2 → α3 → α4 → α5 → α6 → α7 → α8 → α9 → α10 → α11 → α12 → α13 → α14 → Option τ) : Nat → α0 → α1 → α2 → α3 → α4 → α5 → α6 → α7 → α8 → α9 → α10 → α11 → α12 → α13 → α14 → Option τ
  | 0 => fun _ _ _ _ _ _ _ _ _ _ _ _ _ _ _ => none
  | m + 1 => F (it15 F m)
theorem it15_s {α0 α1 α2 α3 α4 α5 α6 α7 α8 α9 α10 α11 α12 α13 α14 τ : Type} {F : (α0 → α1 → α2 → α3 → α4 → α5 → α6 → α7 → α8 → α9 → α10 → α11 → α12 → α13 → α14 → Option τ) → α0 → α1 → α2 → α3 → α4 → α5 → α6 → α7 → α8 → α9 → α10 → α11 → α12 → α13 → α14 → Option τ} {m : Nat} {a0 : α0} {a1 : α1} {a2 : α2} {a3 : α3} {a4 : α4} {a5 : α5} {a6 : α6} {a7 : α7} {a8 : α8} {a9 : α9} {a10 : α10} {a11 : α11} {a12 : α12} {a13 : α13} {a14 : α14} {r : τ} (h : it15 F m a0 a1 a2 a3 a4 a5 a6 a7 a8 a9 a10 a11 a12 a13 a14 = some r) : ∃ m0, m = m0 + 1 ∧ F (it15 F m0) a0 a1 a2 a3 a4 a5 a6 a7 a8 a9 a10 a11 a12 a13 a14 = some r := by
  cases m with
  | zero => cases h
  | succ m => exact ⟨m, rfl, h⟩
def rc15 {α0 α1 α2 α3 α4 α5 α6 α7 α8 α9 α10 α11 α12 α13 α14 τ : Type} (F : Nat → (α0 → α1 → α2 → α3 → α4 → α5 → α6 → α7 → α8 → α9 → α10 → α11 → α12 → α13 → α14 → Option τ) → α0 → α1 → α2 → α3 → α4 → α5 → α6 → α7 → α8 → α9 → α10 → α11 → α12 → α13 → α14 → Option τ) : Nat → α0 → α1 → α2 → α3 → α4 → α5 → α6 → α7 → α8 → α9 → α10 → α11 → α12 → α13 → α14 → Option τ
  | 0 => fun _ _ _ _ _ _ _ _ _ _ _ _ _ _ _ => none
  | m + 1 => F m (rc15 F m)
theorem rc15_s {α0 α1 α2 α3 α4 α5 α6 α7 α8 α9 α10 α11 α12 α13 α14 τ : Type} {F : Nat → (α0 → α1 → α2 → α3 → α4 → α5 → α6 → α7 → α8 → α9 → α10 → α11 → α12 → α13 → α14 → Option τ) → α0 → α1 → α2 → α3 → α4 → α5 → α6 → α7 → α8 → α9 → α10 → α11 → α12 → α13 → α14 → Option τ} {m : Nat} {a0 : α0} {a1 : α1} {a2 : α2} {a3 : α3} {a4 : α4} {a5 : α5} {a6 : α6} {a7 : α7} {a8 : α8} {a9 : α9} {a10 : α10} {a11 : α11} {a12 : α12} {a13 : α13} {a14 : α14} {r : τ} (h : rc15 F (m + 1) a0 a1 a2 a3 a4 a5 a6 a7 a8 a9 a10 a11 a12 a13 a14 = some r) : F m (rc15 F m) a0 a1 a2 a3 a4 a5 a6 a7 a8 a9 a10 a11 a12 a13 a14 = some r := h
/-- behind 16 results -/
def ob16 {α0 α1 α2 α3 α4 α5 α6 α7 α8 α9 α10 α11 α12 α13 α14 α15 τ : Type} (x : Option (α0 × α1 × α2 × α3 × α4 × α5 × α6 × α7 × α8 × α9 × α10 × α11 × α12 × α13 × α14 × α15)) (F : α0 → α1 → α2 → α3 → α4 → α5 → α6 → α7 → α8 → α9 → α10 → α11 → α12 → α13 → α14 → α15 → Option τ) : Option τ := match x with
  | none => none
  | some (a0, a1, a2, a3, a4, a5, a6, a7, a8, a9, a10, a11, a12, a13, a14, a15) => F a0 a1 a2 a3 a4 a5 a6 a7 a8 a9 a10 a11 a12 a13 a14 a15
theorem bd16 {α0 α1 α2 α3 α4 α5 α6 α7 α8 α9 α10 α11 α12 α13 α14 α15 τ : Type} {x : Option (α0 × α1 × α2 × α3 × α4 × α5 × α6 × α7 × α8 × α9 × α10 × α11 × α12 × α13 × α14 × α15)} {F : α0 → α1 → α2 → α3 → α4 → α5 → α6 → α7 → α8 → α9 → α10 → α11 → α12 → α13 → α14 → α15 → Option τ} {r : τ} (h : ob16 x F = some r) : ∃ a0 a1 a2 a3 a4 a5 a6 a7 a8 a9 a10 a11 a12 a13 a14 a15, x = some (a0, a1, a2, a3, a4, a5, a6, a7, a8, a9, a10, a11, a12, a13, a14, a15) ∧ F a0 a1 a2 a3 a4 a5 a6 a7 a8 a9 a10 a11 a12 a13 a14 a15 = some r := by
  cases x with
  | none => cases h
  | some p => obtain ⟨a0, a1, a2, a3, a4, a5, a6, a7, a8, a9, a10, a11, a12, a13, a14, a15⟩ := p; exact ⟨a0, a1, a2, a3, a4, a5, a6, a7, a8, a9, a10, a11, a12, a13, a14, a15, rfl, h⟩
@[simp] theorem ob16_some {α0 α1 α2 α3 α4 α5 α6 α7 α8 α9 α10 α11 α12 α13 α14 α15 τ : Type} {a0 : α0} {a1 : α1} {a2 : α2} {a3 : α3} {a4 : α4} {a5 : α5} {a6 : α6} {a7 : α7} {a8 : α8} {a9 : α9} {a10 : α10} {a11 : α11} {a12 : α12} {a13 : α13} {a14 : α14} {a15 : α15} {F : α0 → α1 → α2 → α3 → α4 → α5 → α6 → α7 → α8 → α9 → α10 → α11 → α12 → α13 → α14 → α15 → Option τ} : ob16 (some (a0, a1, a2, a3, a4, a5, a6, a7, a8, a9, a10, a11, a12, a13, a14, a15)) F = F a0 a1 a2 a3 a4 a5 a6 a7 a8 a9 a10 a11 a12 a13 a14 a15 := rfl
def un16 {α0 α1 α2 α3 α4 α5 α6 α7 α8 α9 α10 α11 α12 α13 α14 α15 τ : Type} (F : α0 → α1 → α2 → α3 → α4 → α5 → α6 → α7 → α8 → α9 → α10 → α11 → α12 → α13 → α14 → α15 → Option τ) : α0 × α1 × α2 × α3 × α4 × α5 × α6 × α7 × α8 × α9 × α10 × α11 × α12 × α13 × α14 × α15 → Option τ := fun (a0, a1, a2, a3, a4, a5, a6, a7, a8, a9, a10, a11, a12, a13, a14, a15) => F a0 a1 a2 a3 a4 a5 a6 a7 a8 a9 a10 a11 a12 a13 a14 a15
theorem pr16 {α0 α1 α2 α3 α4 α5 α6 α7 α8 α9 α10 α11 α12 α13 α14 α15 : Type} {a0 : α0} {a1 : α1} {a2 : α2} {a3 : α3} {a4 : α4} {a5 : α5} {a6 : α6} {a7 : α7} {a8 : α8} {a9 : α9} {a10 : α10} {a11 : α11} {a12 : α12} {a13 : α13} {a14 : α14} {a15 : α15} {b0 : α0} {b1 : α1} {b2 : α2} {b3 : α3} {b4 : α4} {b5 : α5} {b6 : α6} {b7 : α7} {b8 : α8} {b9 : α9} {b10 : α10} {b11 : α11} {b12 : α12} {b13 : α13} {b14 : α14} {b15 : α15} (h : some (a0, a1, a2, a3, a4, a5, a6, a7, a8, a9, a10, a11, a12, a13, a14, a15) = some (b0, b1, b2, b3, b4, b5, b6, b7, b8, b9, b10, b11, b12, b13, b14, b15)) : a0 = b0 ∧ a1 = b1 ∧ a2 = b2 ∧ a3 = b3 ∧ a4 = b4 ∧ a5 = b5 ∧ a6 = b6 ∧ a7 = b7 ∧ a8 = b8 ∧ a9 = b9 ∧ a10 = b10 ∧ a11 = b11 ∧ a12 = b12 ∧ a13 = b13 ∧ a14 = b14 ∧ a15 = b15 := by
  injection h with h
  simpa using h
/-- a loop of 16 variables by fuel -/
def it16 {α0 α1 α2 α3 α4 α5 α6 α7 α8 α9 α10 α11 α12 α13 α14 α15 τ : Type} (F : (α0 → α1 → α2 → α3 → α4 → α5 → α6 → α7 → α8 → α9 → α10 → α11 → α12 → α13 → α14 → α15 → Option τ) → α0 → α1 → α2 → α3 → α4 → α5 → α6 → α7 → α8 → α9 → α10 → α11 → α12 → α13 → α14 → α15 → Option τ) : Nat → α0 → α1 → α2 → α3 → α4 → α5 → α6 → α7 → α8 → α9 → α10 → α11 → α12 → α13 → α14 → α15 → Option τ
  | 0 => fun _ _ _ _ _ _ _ _ _ _ _ _ _ _ _ _ => none
  | m + 1 => F (it16 F m)
theorem it16_s {α0 α1 α2 α3 α4 α5 α6 α7 α8 α9 α10 α11 α12 α13 α14 α15 τ : Type} {F : (α0 → α1 → α2 → α3 → α4 → α5 → α6 → α7 → α8 → α9 → α10 → α11 → α12 → α13 → α14 → α15 → Option τ) → α0 → α1 → α2 → α3 → α4 → α5 → α6 → α7 → α8 → α9 → α10 → α11 → α12 → α13 → α14 → α15 → Option τ} {m : Nat} {a0 : α0} {a1 : α1} {a2 : α2} {a3 : α3} {a4 : α4} {a5 : α5} {a6 : α6} {a7 : α7} {a8 : α8} {a9 : α9} {a10 : α10} {a11 : α11} {a12 : α12} {a13 : α13} {a14 : α14} {a15 : α15} {r : τ} (h : it16 F m a0 a1 a2 a3 a4 a5 a6 a7 a8 a9 a10 a11 a12 a13 a14 a15 = some r) : ∃ m0, m = m0 + 1 ∧ F (it16 F m0) a0 a1 a2 a3 a4 a5 a6 a7 a8 a9 a10 a11 a12 a13 a14 a15 = some r := by
  cases m with
  | zero => cases h
  | succ m => exact ⟨m, rfl, h⟩
def rc16 {α0 α1 α2 α3 α4 α5 α6 α7 α8 α9 α10 α11 α12 α13 α14 α15 τ : Type} (F : Nat → (α0 → α1 → α2 → α3 → α4 → α5 → α6 → α7 → α8 → α9 → α10 → α11 → α12 → α13 → α14 → α15 → Option τ) → α0 → α1 → α2 → α3 → α4 → α5 → α6 → α7 → α8 → α9 → α10 → α11 → α12 → α13 → α14 → α15 → Option τ) : Nat → α0 → α1 → α2 → α3 → α4 → α5 → α6 → α7 → α8 → α9 → α10 → α11 → α12 → α13 → α14 → α15 → Option τ
  | 0 => fun _ _ _ _ _ _ _ _ _ _ _ _ _ _ _ _ => none
  | m + 1 => F m (rc16 F m)
theorem rc16_s {α0 α1 α2 α3 α4 α5 α6 α7 α8 α9 α10 α11 α12 α13 α14 α15 τ : Type} {F : Nat → (α0 → α1 → α2 → α3 → α4 → α5 → α6 → α7 → α8 → α9 → α10 → α11 → α12 → α13 → α14 → α15 → Option τ) → α0 → α1 → α2 → α3 → α4 → α5 → α6 → α7 → α8 → α9 → α10 → α11 → α12 → α13 → α14 → α15 → Option τ} {m : Nat} {a0 : α0} {a1 : α1} {a2 : α2} {a3 : α3} {a4 : α4} {a5 : α5} {a6 : α6} {a7 : α7} {a8 : α8} {a9 : α9} {a10 : α10} {a11 : α11} {a12 : α12} {a13 : α13} {a14 : α14} {a15 : α15} {r : τ} (h : rc16 F (m + 1) a0 a1 a2 a3 a4 a5 a6 a7 a8 a9 a10 a11 a12 a13 a14 a15 = some r) : F m (rc16 F m) a0 a1 a2 a3 a4 a5 a6 a7 a8 a9 a10 a11 a12 a13 a14 a15 = some r := h
theorem Upd.z {cs cs' ws ws' : List Value} {o : Nat} (h : Upd cs o ws ws' cs') : Upd cs (0 + o) ws ws' cs' := by rw [Nat.zero_add]; exact h
theorem Rd.pl {α : Type} {R : Lay α} {C : List Chunk} {v : Value} {l : List α} (h : Rd R C v l) : plainV v = true := by obtain ⟨p, cap, rfl⟩ := h.slice; rfl
theorem Own.pl {α : Type} {R : Lay α} {g : List Chunk} {v : Value} {l : List α} (h : Own R v l g) : plainV v = true := h.rd.pl
theorem encN_plain {α : Type} {enc : α → List Value} (h : ∀ a, (enc a).all plainV = true) (f : Int → α) : ∀ n, (encN enc f n).all plainV = true
  | 0 => rfl
  | n + 1 => by simp only [encN, List.all_append, encN_plain h f n, h]; rfl
theorem all2 {a b : List Value} (h : a.all plainV = true) (k : b.all plainV = true) : (a ++ b).all plainV = true := by rw [List.all_append, h, k]; rfl
theorem all1 {v : Value} (h : plainV v = true) : [v].all plainV = true := by simp [h]
theorem Sel.e {S F : SH} {a b : List Chunk} (h : Sel S [a, b] F) : Sel S [a, b, []] F := by unfold Sel at *; simpa using h
theorem Sel.m2 {S F : SH} {a b c d : List Chunk} (h : Sel S [a, b, c, d] F) : Sel S [a, b, c ++ d] F := by unfold Sel at *; simpa using h
theorem Sel.all' {S : SH} : Sel S S [] := by unfold Sel; simp
theorem mem_l {x : Chunk} {a b : List Chunk} (h : x ∈ a) : x ∈ a ++ b := List.mem_append_left _ h
theorem mem_r {x : Chunk} {a b : List Chunk} (h : x ∈ b) : x ∈ a ++ b := List.mem_append_right _ h
theorem Sel.mem {S A F : SH} (h : Sel S A F) {x : Chunk} (hx : x ∈ F.flatten) : x ∈ S.flatten := h.sub x hx
theorem gtb {E : Env} {s : Nat} {p q : Bool} (h : gt E s = some (.bool p)) (e : p = q) : gt E s = some (.bool q) := by rw [h, e]
def nm {α τ : Type} (a : α) (F : α → Option τ) : Option τ := F a
theorem nm_s {α τ : Type} {a : α} {F : α → Option τ} {r : τ} (h : nm a F = some r) : ∃ z, z = a ∧ F z = some r := ⟨a, rfl, h⟩
theorem nm_eq {α τ : Type} (a : α) (F : α → Option τ) : nm a F = F a := rfl
attribute [irreducible] nm
inductive Dr : Nat → SH → SH → Prop
  | z {R : SH} : Dr 0 R R
  | s {n : Nat} {g : List Chunk} {A R : SH} : Dr n A R → Dr (n + 1) (g :: A) R
def MeetP (P : Env → SH → Prop) (R : SH) (e e' : Env) (S' : SH) : Prop := ∃ sh G, P sh G ∧ EnvHas sh e' ∧ Cov sh e' e ∧ ∃ F, Sel S' (G ++ R) F
section
variable {c : Cx} {e : Env} {S : SH} {Q : Exit → Env → SH → Prop}
theorem c_joinP {n : Nat} {x y : Code} {Q2 : Exit → Env → SH → Prop} {A R F : SH} (P : Env → SH → Prop) (hS : Sel S A F) (hR : Dr n A R) (hQ : ∀ e' S', OkC c y e' S' Q2 → Q .normal e' S')
    (h : OkC c x e S (fun ex e' S' => match ex with | .normal => MeetP P R e e' S' | _ => Q ex e' S'))
    (k : ∀ sh G, P sh G → OkC c y (sh ++ e) (G ++ R) Q2) : OkC c x e S Q := c_mono h fun ex e' S' hq => by
  cases ex
  case normal => obtain ⟨sh, G, hj, h1, h2, F, hF⟩ := hq; exact hQ _ _ (c_drop hF (c_env (env_cov h1 h2) (k sh G hj)))
  all_goals exact hq
theorem c_loopP {n : Nat} {x : Code} {A R F : SH} (P : Nat → Env → SH → Prop) (m0 : Nat) (hS : Sel S A F) (hR : Dr n A R) (h0 : ∃ sh G, P m0 sh G ∧ EnvHas sh e ∧ ∃ F, Sel S (G ++ R) F)
    (h : ∀ m sh G, P m sh G → OkC c x (sh ++ e) (G ++ R) (fun ex e' S' => match ex with | .normal => ∃ m', m' < m ∧ MeetP (P m') R e e' S' | _ => Q ex e' S')) : OkC c (.loop x) e S Q := by
  obtain ⟨sh0, G0, p0, e0, F0, s0⟩ := h0
  refine c_loopS (ι := Nat × Env × SH) (fun p => p.2.1) (fun p => p.2.2 ++ R) (fun p => P p.1 p.2.1 p.2.2) (fun p => p.1) (m0, sh0, G0) p0 e0 s0 ?_
  rintro ⟨m, sh, G⟩ hp
  refine c_mono (h m sh G hp) fun ex e' S' hq => ?_
  cases ex
  case normal =>
    obtain ⟨m', hlt, sh', G', hj, h1, h2, hF⟩ := hq
    exact ⟨(m', sh', G'), ⟨hj, hlt⟩, h1, h2, hF⟩
  all_goals exact hq
end
section
variable {c : Cx} {all : Array Oper} {rest : List Oper} {T L : Env} {S : SH} {Q : Env → SH → Prop} {pos : String} {af : Array Edge} {ty : TypeId}
theorem o_stN {x y : Operand} {t t' : TypeId} {b o : Nat} {cs cs' cs2 : List Value} {u v : Value} {S' : SH} (ht : One c.P t) (hx : gv (T ++ L) x = some (.pointer (some ⟨b, o, none⟩))) (hy : gv (T ++ L) y = some v) (hv : plainV v = true) (hu : Upd cs o [u] [v] cs')
    (hr : Rep S S' (b, .cells cs.toArray t' (0, 0)) (b, .cells cs2.toArray t' (0, 0))) (hn : cs2 = cs') (h : OkO c all rest T L S' Q) : OkO c all (⟨none, .store t x y, ty, pos, af, none⟩ :: rest) T L S Q := by
  subst hn; exact o_stU ht hx hy hv hu hr h
theorem o_stNA {x y : Operand} {t t' : TypeId} {b o sz : Nat} {cs cs' cs2 ws ws' : List Value} {S' : SH} (ht : Agg c.P t sz) (hx : gv (T ++ L) x = some (.pointer (some ⟨b, o, none⟩))) (hy : gv (T ++ L) y = some (.agg ws'.toArray)) (hv : ws'.all plainV = true) (hz : ws'.length = sz) (hu : Upd cs o ws ws' cs')
    (hr : Rep S S' (b, .cells cs.toArray t' (0, 0)) (b, .cells cs2.toArray t' (0, 0))) (hn : cs2 = cs') (h : OkO c all rest T L S' Q) : OkO c all (⟨none, .store t x y, ty, pos, af, none⟩ :: rest) T L S Q := by
  subst hn; exact o_stUA ht hx hy hv hz hu hr h
end
end Go.Eng
