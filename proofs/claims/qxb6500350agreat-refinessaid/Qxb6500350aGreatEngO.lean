/- THE ENGINE, part 2: one rule an operation. -/
import Derived.Test.Qxb6500350aGreatEng
set_option linter.unusedVariables false
set_option linter.unusedSimpArgs false
namespace Go.Eng

section
variable {c : Cx} {all : Array Oper} {rest : List Oper} {T L : Env} {S : SH} {Q : Env → SH → Prop}

theorem o_nil0 (hT : apartB T L = true) (h : Q L S) : OkO c all [] T L S Q :=
  fun Q' hQ a w he hs => wpList_nil (hQ a w ⟨L, S, he.drop hT, hs, h⟩)
theorem o_nil1 (s : Nat) {v : Value} (hs : gt T s = some v) (hT : apartB T L = true) (h : Q ((s, v) :: L) S) : OkO c all [] T L S Q :=
  fun Q' hQ a w he hst => wpList_nil (hQ a w ⟨(s, v) :: L, S, he.drop1 hT hs, hst, h⟩)
theorem o_nil2 (s s' : Nat) {v v' : Value} (hs : gt T s = some v) (hs' : gt T s' = some v') (hT : apartB T L = true) (h : Q ((s, v) :: (s', v') :: L) S) : OkO c all [] T L S Q :=
  fun Q' hQ a w he hst => wpList_nil (hQ a w ⟨_, S, he.drop2 hT hs hs', hst, h⟩)

theorem o_perm {l : List Oper} {S' : SH} (p : S.flatten.Perm S'.flatten) (h : OkO c all l T L S' Q) : OkO c all l T L S Q :=
  fun Q' hQ a w he hs => h Q' hQ a w he (hs.perm p)

/-- an operation that yields a value and turns nothing -/
def Yields (P : Program) (n : Nat) (e : Env) (op : Op) (ty : TypeId) (v : Value) : Prop :=
  ∀ a w d pos af, EnvOk n e a → (execOp a.eval ⟨d, op, ty, pos, af, none⟩).run P w = .ok (.value v) w

theorem o_T {d : Nat} {op : Op} {ty : TypeId} {pos : String} {af : Array Edge} {v : Value} (hy : Yields c.P c.n (T ++ L) op ty v) (hd : Nat.blt d c.n = true)
    (h : OkO c all rest ((d, v) :: T) L S Q) : OkO c all (⟨some d, op, ty, pos, af, none⟩ :: rest) T L S Q := by
  intro Q' hQ a w he hs
  refine wpList_plain rfl fun K hK => ?_
  rw [Oper.wp, hy a w _ _ _ he, Oper.upon_value]
  exact hK _ _ (h Q' hQ _ _ (he.putT v hd) hs)

theorem o_L {d : Nat} {op : Op} {ty : TypeId} {pos : String} {af : Array Edge} {v : Value} (hy : Yields c.P c.n (T ++ L) op ty v) (hd : Nat.blt d c.n = true) (hT : gt T d = none)
    (h : OkO c all rest T ((d, v) :: L) S Q) : OkO c all (⟨some d, op, ty, pos, af, none⟩ :: rest) T L S Q := by
  intro Q' hQ a w he hs
  refine wpList_plain rfl fun K hK => ?_
  rw [Oper.wp, hy a w _ _ _ he, Oper.upon_value]
  exact hK _ _ (h Q' hQ _ _ (he.putL v hd hT) hs)

/-- guards -/
theorem o_take {d : Option Nat} {op : Op} {ty : TypeId} {pos : String} {af : Array Edge} {j s : Nat} {b : Bool} {oj : Oper} (hj : all[j]? = some oj) (hd : oj.dst = some s) (hv : gt (T ++ L) s = some (.bool b))
    (h : OkO c all (⟨d, op, ty, pos, af, none⟩ :: rest) T L S Q) : OkO c all (⟨d, op, ty, pos, af, some (j, b)⟩ :: rest) T L S Q := by
  intro Q' hQ a w he hs
  have hw : Region.wanted ⟨d, op, ty, pos, af, some (j, b)⟩ (yielded all a.tmps) = true := by
    simp [Region.wanted, yielded, hj, hd, he.2.2 s _ hv]
  have h1 := h Q' hQ a w he hs
  unfold wpList at h1 ⊢
  rw [if_pos hw]
  rw [if_pos (by simp [Region.wanted])] at h1
  exact h1

theorem o_pass {d : Nat} {op : Op} {ty : TypeId} {pos : String} {af : Array Edge} {j s : Nat} {b b' : Bool} {oj : Oper} (hj : all[j]? = some oj) (hdj : oj.dst = some s) (hv : gt (T ++ L) s = some (.bool b')) (hb : b' = !b) (hd : Nat.blt d c.n = true)
    (h : OkO c all rest ((d, undef) :: T) L S Q) : OkO c all (⟨some d, op, ty, pos, af, some (j, b)⟩ :: rest) T L S Q := by
  intro Q' hQ a w he hs
  have hw : Region.wanted ⟨some d, op, ty, pos, af, some (j, b)⟩ (yielded all a.tmps) = false := by
    subst hb
    cases b <;> simp [Region.wanted, yielded, hj, hdj, he.2.2 s _ hv]
  unfold wpList
  rw [if_neg (by simp [hw])]
  exact h Q' hQ _ _ (he.putT undef hd) hs

theorem o_split {l : List Oper} (s : Nat) {t : Bool} (hv : gt (T ++ L) s = some (.bool t)) (h1 : t = true → OkO c all l ((s, .bool true) :: T) L S Q) (h2 : t = false → OkO c all l ((s, .bool false) :: T) L S Q) : OkO c all l T L S Q := by
  intro Q' hQ a w he hs
  have key : ∀ b : Bool, t = b → EnvOk c.n (((s, .bool b) :: T) ++ L) a := fun b hb => he.sub fun u v hu => by
    subst hb
    simp only [List.cons_append, gt] at hu
    split at hu
    · rename_i hbq
      have : s = u := Nat.eq_of_beq_eq_true hbq
      subst this; rw [hv]; exact hu
    · exact hu
  cases t with
  | true => exact h1 rfl Q' hQ a w (key true rfl) hs
  | false => exact h2 rfl Q' hQ a w (key false rfl) hs
end

/-! ### Pure operations -/
section
variable {P : Program} {n : Nat} {e : Env} {ty : TypeId}

theorem y_move {x : Operand} {v : Value} (hx : gv e x = some v) : Yields P n e (.move x) ty v := fun a w d pos af he => by
  have g1 := he.gv hx; generalize a.eval = ρ at *; simp [execOp, go_sem, g1]
theorem y_assign {x : Operand} {v : Value} (hx : gv e x = some v) : Yields P n e (.assign x) ty v := fun a w d pos af he => by
  have g1 := he.gv hx; generalize a.eval = ρ at *; simp [execOp, go_sem, g1]
theorem y_nilck {x : Operand} {b : Addr} (hx : gv e x = some (.pointer (some b))) : Yields P n e (.nilCheck x) ty (.pointer (some b)) := fun a w d pos af he => by
  have g1 := he.gv hx; generalize a.eval = ρ at *; simp [execOp, go_sem, g1]
theorem y_extract {x : Operand} {vs : Array Value} {i : Nat} {v : Value} (hx : gv e x = some (.tuple vs)) (hi : vs[i]? = some v) : Yields P n e (.extract x i) ty v := fun a w d pos af he => by
  have g1 := he.gv hx; generalize a.eval = ρ at *; simp [execOp, go_sem, g1, Instr.extract, hi]
theorem y_pickT {x a' b' : Operand} {v : Value} (hx : gv e x = some (.bool true)) (ha : gv e a' = some v) : Yields P n e (.pick x a' b') ty v := fun a w d pos af he => by
  have g1 := he.gv hx; have g2 := he.gv ha; generalize a.eval = ρ at *; simp [execOp, go_sem, g1, g2, asBool]
theorem y_pickF {x a' b' : Operand} {v : Value} (hx : gv e x = some (.bool false)) (hb : gv e b' = some v) : Yields P n e (.pick x a' b') ty v := fun a w d pos af he => by
  have g1 := he.gv hx; have g2 := he.gv hb; generalize a.eval = ρ at *; simp [execOp, go_sem, g1, g2, asBool]
theorem y_not {x : Operand} {t : Bool} {t2 : TypeId} (hx : gv e x = some (.bool t)) : Yields P n e (.unOp .not t2 x) ty (.bool (!t)) := fun a w d pos af he => by
  have g1 := he.gv hx; generalize a.eval = ρ at *; simp [execOp, go_sem, g1, Op.unary]

theorem y_add {x y : Operand} {k : IntKind} {p q r : Int} {t1 t2 : TypeId} (hx : gv e x = some (.int k p)) (hy : gv e y = some (.int k q)) (hr : k.wrap (p + q) = r) :
    Yields P n e (.binOp .add t1 x y t2) ty (.int k r) := fun a w d pos af he => by
  subst hr; have g1 := he.gv hx; have g2 := he.gv hy; generalize a.eval = ρ at *; simp [execOp, go_sem, g1, g2, binOp, Op.intArith, eqGuard]
theorem y_sub {x y : Operand} {k : IntKind} {p q r : Int} {t1 t2 : TypeId} (hx : gv e x = some (.int k p)) (hy : gv e y = some (.int k q)) (hr : k.wrap (p - q) = r) :
    Yields P n e (.binOp .sub t1 x y t2) ty (.int k r) := fun a w d pos af he => by
  subst hr; have g1 := he.gv hx; have g2 := he.gv hy; generalize a.eval = ρ at *; simp [execOp, go_sem, g1, g2, binOp, Op.intArith, eqGuard]
theorem y_mul {x y : Operand} {k : IntKind} {p q r : Int} {t1 t2 : TypeId} (hx : gv e x = some (.int k p)) (hy : gv e y = some (.int k q)) (hr : k.wrap (p * q) = r) :
    Yields P n e (.binOp .mul t1 x y t2) ty (.int k r) := fun a w d pos af he => by
  subst hr; have g1 := he.gv hx; have g2 := he.gv hy; generalize a.eval = ρ at *; simp [execOp, go_sem, g1, g2, binOp, Op.intArith, eqGuard]
theorem y_quo {x y : Operand} {k : IntKind} {p q r : Int} {t1 t2 : TypeId} (hx : gv e x = some (.int k p)) (hy : gv e y = some (.int k q)) (h0 : q ≠ 0) (hr : k.wrap (p.tdiv q) = r) :
    Yields P n e (.binOp .quo t1 x y t2) ty (.int k r) := fun a w d pos af he => by
  subst hr; have g1 := he.gv hx; have g2 := he.gv hy; generalize a.eval = ρ at *; simp [execOp, go_sem, g1, g2, binOp, Op.intDiv, eqGuard, h0]
theorem y_rem {x y : Operand} {k : IntKind} {p q r : Int} {t1 t2 : TypeId} (hx : gv e x = some (.int k p)) (hy : gv e y = some (.int k q)) (h0 : q ≠ 0) (hr : p.tmod q = r) :
    Yields P n e (.binOp .rem t1 x y t2) ty (.int k r) := fun a w d pos af he => by
  subst hr; have g1 := he.gv hx; have g2 := he.gv hy; generalize a.eval = ρ at *; simp [execOp, go_sem, g1, g2, binOp, Op.intDiv, eqGuard, h0]

def bAnd (k : IntKind) (p q : Int) : Int := k.wrap ((BitVec.ofInt k.bits p &&& BitVec.ofInt k.bits q).toNat : Int)
def bOr (k : IntKind) (p q : Int) : Int := k.wrap ((BitVec.ofInt k.bits p ||| BitVec.ofInt k.bits q).toNat : Int)
def bXor (k : IntKind) (p q : Int) : Int := k.wrap ((BitVec.ofInt k.bits p ^^^ BitVec.ofInt k.bits q).toNat : Int)
def bAndNot (k : IntKind) (p q : Int) : Int := k.wrap ((BitVec.ofInt k.bits p &&& ~~~BitVec.ofInt k.bits q).toNat : Int)
theorem y_and {x y : Operand} {k : IntKind} {p q r : Int} {t1 t2 : TypeId} (hx : gv e x = some (.int k p)) (hy : gv e y = some (.int k q)) (hr : bAnd k p q = r) :
    Yields P n e (.binOp .and t1 x y t2) ty (.int k r) := fun a w d pos af he => by
  subst hr; have g1 := he.gv hx; have g2 := he.gv hy; generalize a.eval = ρ at *; simp [execOp, go_sem, g1, g2, binOp, Op.intBits, eqGuard, bAnd]
theorem y_or {x y : Operand} {k : IntKind} {p q r : Int} {t1 t2 : TypeId} (hx : gv e x = some (.int k p)) (hy : gv e y = some (.int k q)) (hr : bOr k p q = r) :
    Yields P n e (.binOp .or t1 x y t2) ty (.int k r) := fun a w d pos af he => by
  subst hr; have g1 := he.gv hx; have g2 := he.gv hy; generalize a.eval = ρ at *; simp [execOp, go_sem, g1, g2, binOp, Op.intBits, eqGuard, bOr]
theorem y_xor {x y : Operand} {k : IntKind} {p q r : Int} {t1 t2 : TypeId} (hx : gv e x = some (.int k p)) (hy : gv e y = some (.int k q)) (hr : bXor k p q = r) :
    Yields P n e (.binOp .xor t1 x y t2) ty (.int k r) := fun a w d pos af he => by
  subst hr; have g1 := he.gv hx; have g2 := he.gv hy; generalize a.eval = ρ at *; simp [execOp, go_sem, g1, g2, binOp, Op.intBits, eqGuard, bXor]
theorem y_andNot {x y : Operand} {k : IntKind} {p q r : Int} {t1 t2 : TypeId} (hx : gv e x = some (.int k p)) (hy : gv e y = some (.int k q)) (hr : bAndNot k p q = r) :
    Yields P n e (.binOp .andNot t1 x y t2) ty (.int k r) := fun a w d pos af he => by
  subst hr; have g1 := he.gv hx; have g2 := he.gv hy; generalize a.eval = ρ at *; simp [execOp, go_sem, g1, g2, binOp, Op.intBits, eqGuard, bAndNot]
theorem y_shl {x y : Operand} {k k' : IntKind} {p q r : Int} {t1 t2 : TypeId} (hx : gv e x = some (.int k p)) (hy : gv e y = some (.int k' q)) (h0 : 0 ≤ q) (hr : k.wrap (p * 2 ^ (min q.toNat k.bits)) = r) :
    Yields P n e (.binOp .shl t1 x y t2) ty (.int k r) := fun a w d pos af he => by
  subst hr
  have h1 : ¬ q < 0 := by omega
  have g1 := he.gv hx; have g2 := he.gv hy; generalize a.eval = ρ at *; simp [execOp, go_sem, g1, g2, binOp, Op.shift, eqGuard, h1]
theorem y_shr {x y : Operand} {k k' : IntKind} {p q r : Int} {t1 t2 : TypeId} (hx : gv e x = some (.int k p)) (hy : gv e y = some (.int k' q)) (h0 : 0 ≤ q) (hr : p.fdiv (2 ^ (min q.toNat k.bits)) = r) :
    Yields P n e (.binOp .shr t1 x y t2) ty (.int k r) := fun a w d pos af he => by
  subst hr
  have h1 : ¬ q < 0 := by omega
  have g1 := he.gv hx; have g2 := he.gv hy; generalize a.eval = ρ at *; simp [execOp, go_sem, g1, g2, binOp, Op.shift, eqGuard, h1]
theorem y_neg {x : Operand} {k : IntKind} {p r : Int} {t2 : TypeId} (hx : gv e x = some (.int k p)) (hr : k.wrap (0 - p) = r) : Yields P n e (.unOp .neg t2 x) ty (.int k r) := fun a w d pos af he => by
  subst hr; have g1 := he.gv hx; generalize a.eval = ρ at *; simp [execOp, go_sem, g1, Op.unary, Op.intArith]

theorem y_eql {x y : Operand} {k : IntKind} {p q : Int} {t1 t2 : TypeId} (hx : gv e x = some (.int k p)) (hy : gv e y = some (.int k q)) :
    Yields P n e (.binOp .eql t1 x y t2) ty (.bool (decide (p = q))) := fun a w d pos af he => by
  have g1 := he.gv hx; have g2 := he.gv hy; generalize a.eval = ρ at *; simp [execOp, go_sem, g1, g2, binOp, Op.intCmp, eqGuard]; exact Bool.eq_iff_iff.2 (by simp)
theorem y_neq {x y : Operand} {k : IntKind} {p q : Int} {t1 t2 : TypeId} (hx : gv e x = some (.int k p)) (hy : gv e y = some (.int k q)) :
    Yields P n e (.binOp .neq t1 x y t2) ty (.bool (decide (¬ p = q))) := fun a w d pos af he => by
  have g1 := he.gv hx; have g2 := he.gv hy; generalize a.eval = ρ at *; simp [execOp, go_sem, g1, g2, binOp, Op.intCmp, eqGuard]; exact Bool.eq_iff_iff.2 (by simp)
theorem y_lss {x y : Operand} {k : IntKind} {p q : Int} {t1 t2 : TypeId} (hx : gv e x = some (.int k p)) (hy : gv e y = some (.int k q)) :
    Yields P n e (.binOp .lss t1 x y t2) ty (.bool (decide (p < q))) := fun a w d pos af he => by
  have g1 := he.gv hx; have g2 := he.gv hy; generalize a.eval = ρ at *; simp [execOp, go_sem, g1, g2, binOp, Op.intCmp, eqGuard]
theorem y_leq {x y : Operand} {k : IntKind} {p q : Int} {t1 t2 : TypeId} (hx : gv e x = some (.int k p)) (hy : gv e y = some (.int k q)) :
    Yields P n e (.binOp .leq t1 x y t2) ty (.bool (decide (p ≤ q))) := fun a w d pos af he => by
  have g1 := he.gv hx; have g2 := he.gv hy; generalize a.eval = ρ at *; simp [execOp, go_sem, g1, g2, binOp, Op.intCmp, eqGuard]
theorem y_gtr {x y : Operand} {k : IntKind} {p q : Int} {t1 t2 : TypeId} (hx : gv e x = some (.int k p)) (hy : gv e y = some (.int k q)) :
    Yields P n e (.binOp .gtr t1 x y t2) ty (.bool (decide (q < p))) := fun a w d pos af he => by
  have g1 := he.gv hx; have g2 := he.gv hy; generalize a.eval = ρ at *; simp [execOp, go_sem, g1, g2, binOp, Op.intCmp, eqGuard]
theorem y_geq {x y : Operand} {k : IntKind} {p q : Int} {t1 t2 : TypeId} (hx : gv e x = some (.int k p)) (hy : gv e y = some (.int k q)) :
    Yields P n e (.binOp .geq t1 x y t2) ty (.bool (decide (q ≤ p))) := fun a w d pos af he => by
  have g1 := he.gv hx; have g2 := he.gv hy; generalize a.eval = ρ at *; simp [execOp, go_sem, g1, g2, binOp, Op.intCmp, eqGuard]

theorem eq_bool {P : Program} (d : Nat) {t : TypeId} {p q : Bool} {w : World} (ht : P.underlying t = some .bool) : (Op.equalIn (d + 1) t (.bool p) (.bool q)).run P w = .ok (p == q) w := by
  simp [Op.equalIn, go_sem, run_underlying ht]
theorem eq_ptr {P : Program} (d : Nat) {t el : TypeId} {p : Option Addr} {w : World} (ht : P.underlying t = some (.pointer el)) : (Op.equalIn (d + 1) t (.pointer p) (.pointer none)).run P w = .ok p.isNone w := by
  cases p <;> simp [Op.equalIn, go_sem, run_underlying ht]
theorem eq_slc {P : Program} (d : Nat) {t el : TypeId} {p : Option Addr} {l1 l2 c1 c2 : Nat} {w : World} (ht : P.underlying t = some (.slice el)) : (Op.equalIn (d + 1) t (.slice p l1 c1) (.slice none l2 c2)).run P w = .ok p.isNone w := by
  cases p <;> simp [Op.equalIn, go_sem, run_underlying ht]
theorem eq_top {P : Program} {t : TypeId} {x y : Value} {w : World} {b : Bool} (h : (Op.equalIn (9999 + 1) t x y).run P w = .ok b w) : (Op.equal t x y).run P w = .ok b w := h

theorem y_beq {x y : Operand} {p q : Bool} {t1 t2 : TypeId} (ht : P.underlying t1 = some .bool) (hx : gv e x = some (.bool p)) (hy : gv e y = some (.bool q)) :
    Yields P n e (.binOp .eql t1 x y t2) ty (.bool (p == q)) := fun a w d pos af he => by
  have g1 := he.gv hx; have g2 := he.gv hy; generalize a.eval = ρ at *
  have h := eq_top (w := w) (eq_bool (p := p) (q := q) 9999 ht)
  generalize hz : Op.equal t1 (.bool p) (.bool q) = z at h
  simp [execOp, go_sem, g1, g2, binOp, eqGuard, hz, h]
theorem y_bne {x y : Operand} {p q : Bool} {t1 t2 : TypeId} (ht : P.underlying t1 = some .bool) (hx : gv e x = some (.bool p)) (hy : gv e y = some (.bool q)) :
    Yields P n e (.binOp .neq t1 x y t2) ty (.bool (p != q)) := fun a w d pos af he => by
  have g1 := he.gv hx; have g2 := he.gv hy; generalize a.eval = ρ at *
  have h := eq_top (w := w) (eq_bool (p := p) (q := q) 9999 ht)
  generalize hz : Op.equal t1 (.bool p) (.bool q) = z at h
  simp [execOp, go_sem, g1, g2, binOp, eqGuard, hz, h]
  cases p <;> cases q <;> rfl
theorem y_ptr_nil {x y : Operand} {p : Option Addr} {t1 t2 el : TypeId} (ht : P.underlying t1 = some (.pointer el)) (hx : gv e x = some (.pointer p)) (hy : gv e y = some (.pointer none)) :
    Yields P n e (.binOp .eql t1 x y t2) ty (.bool p.isNone) := fun a w d pos af he => by
  have g1 := he.gv hx; have g2 := he.gv hy; generalize a.eval = ρ at *
  have h := eq_top (w := w) (eq_ptr (p := p) 9999 ht)
  generalize hz : Op.equal t1 (.pointer p) (.pointer none) = z at h
  simp [execOp, go_sem, g1, g2, binOp, eqGuard, hz, h]
theorem y_slc_nil {x y : Operand} {p : Option Addr} {l1 l2 c1 c2 : Nat} {t1 t2 el : TypeId} (ht : P.underlying t1 = some (.slice el)) (hx : gv e x = some (.slice p l1 c1)) (hy : gv e y = some (.slice none l2 c2)) :
    Yields P n e (.binOp .eql t1 x y t2) ty (.bool p.isNone) := fun a w d pos af he => by
  have g1 := he.gv hx; have g2 := he.gv hy; generalize a.eval = ρ at *
  have h := eq_top (w := w) (eq_slc (p := p) (l1 := l1) (l2 := l2) (c1 := c1) (c2 := c2) 9999 ht)
  generalize hz : Op.equal t1 (.slice p l1 c1) (.slice none l2 c2) = z at h
  simp [execOp, go_sem, g1, g2, binOp, eqGuard, hz, h]

/-! ### Addresses. The layout comes in as closed facts. -/
def FieldAt (P : Program) (s : TypeId) (f : Nat) (off : Nat) : Prop := ∃ fs fd, P.underlying s = some (.struct fs) ∧ fs[f]? = some fd ∧ P.info? fd.type ≠ none ∧ P.cellsOf fd.type ≠ 0 ∧ fd.offset = off
def ArrAt (P : Program) (t : TypeId) (len sz : Nat) : Prop := ∃ el i, P.underlying t = some (.array len el) ∧ P.info? el = some i ∧ P.cellsOf el = sz
def SlcAt (P : Program) (t : TypeId) (el : TypeId) (sz : Nat) : Prop := ∃ i, P.underlying t = some (.slice el) ∧ P.info? el = some i ∧ P.cellsOf el = sz

theorem sz_run {P : Program} {t : TypeId} {i : TypeInfo} (h : P.info? t = some i) (w : World) : (sizeOf t).run P w = .ok (P.cellsOf t) w := run_sizeOf w h

theorem add_none (b o k : Nat) : Addr.add ⟨b, o, none⟩ k = ⟨b, o + k, none⟩ := by
  unfold Addr.add; split
  · rename_i h; subst h; rfl
  · rfl

theorem y_fa {x : Operand} {s : TypeId} {f k b o : Nat} (hf : FieldAt P s f k) (hx : gv e x = some (.pointer (some ⟨b, o, none⟩))) :
    Yields P n e (.fieldAddr s x f) ty (.pointer (some ⟨b, o + k, none⟩)) := fun a w d pos af he => by
  obtain ⟨fs, fd, h1, h2, h3, h4, rfl⟩ := hf
  have g1 := he.gv hx; generalize a.eval = ρ at *
  cases hi : P.info? fd.type with
  | none => exact absurd hi h3
  | some i =>
    simp [execOp, go_sem, g1, Instr.fieldAt, Instr.sureAddr, fieldPlace, run_underlying h1, h2, sz_run hi, h4, add_none]

theorem y_ia {x y : Operand} {t : TypeId} {len sz b o : Nat} {k : IntKind} {i : Int} (hf : ArrAt P t len sz) (hx : gv e x = some (.pointer (some ⟨b, o, none⟩))) (hy : gv e y = some (.int k i)) (h0 : 0 ≤ i) (h1 : i < len) :
    Yields P n e (.indexAddr t x y) ty (.pointer (some ⟨b, o + i.toNat * sz, none⟩)) := fun a w d pos af he => by
  obtain ⟨el, inf, h2, h3, rfl⟩ := hf
  have g1 := he.gv hx; have g2 := he.gv hy; generalize a.eval = ρ at *
  simp [execOp, go_sem, g1, g2, Instr.indexAt, Instr.sureAddr, asIntOf, run_underlying h2, sz_run h3, h0, h1, add_none]

theorem y_is {x y : Operand} {t el : TypeId} {sz b o len cap : Nat} {k : IntKind} {i : Int} (hf : SlcAt P t el sz) (hx : gv e x = some (.slice (some ⟨b, o, none⟩) len cap)) (hy : gv e y = some (.int k i)) (h0 : 0 ≤ i) (h1 : i < len) :
    Yields P n e (.indexAddr t x y) ty (.pointer (some ⟨b, o + i.toNat * sz, none⟩)) := fun a w d pos af he => by
  obtain ⟨inf, h2, h3, rfl⟩ := hf
  have g1 := he.gv hx; have g2 := he.gv hy; generalize a.eval = ρ at *
  simp [execOp, go_sem, g1, g2, Instr.indexAt, Instr.sureAddr, asIntOf, run_underlying h2, sz_run h3, h0, h1, add_none]

theorem y_conv {x : Operand} {k k' : IntKind} {i r : Int} {t1 t2 : TypeId} (ht1 : P.underlying t1 = some (.int k')) (ht : P.underlying t2 = some (.int k)) (hx : gv e x = some (.int k' i)) (hr : k.wrap i = r) :
    Yields P n e (.convert t1 t2 x) ty (.int k r) := fun a w d pos af he => by
  subst hr
  have g1 := he.gv hx; generalize a.eval = ρ at *
  simp [execOp, go_sem, g1, convert, run_underlying ht, run_underlying ht1, Conv.intToInt]

theorem y_len {x : Operand} {t el : TypeId} {p : Option Addr} {len cap : Nat} (ht : P.underlying t = some (.slice el)) (hx : gv e x = some (.slice p len cap)) :
    Yields P n e (.call ⟨.builtin .len, #[x], #[t]⟩) ty (.int .i64 len) := fun a w d pos af he => by
  have g1 := he.gv hx; generalize a.eval = ρ at *
  simp [execOp, go_sem, g1, resolve, invoke, builtin, Builtin.len_, run_underlying ht, goInt]
theorem y_lens {x : Operand} {t : TypeId} {s : ByteArray} (ht : P.underlying t = some .string) (hx : gv e x = some (.string s)) :
    Yields P n e (.call ⟨.builtin .len, #[x], #[t]⟩) ty (.int .i64 s.size) := fun a w d pos af he => by
  have g1 := he.gv hx; generalize a.eval = ρ at *
  simp [execOp, go_sem, g1, resolve, invoke, builtin, Builtin.len_, run_underlying ht, goInt]
theorem y_cap {x : Operand} {t el : TypeId} {p : Option Addr} {len cap : Nat} (ht : P.underlying t = some (.slice el)) (hx : gv e x = some (.slice p len cap)) :
    Yields P n e (.call ⟨.builtin .cap, #[x], #[t]⟩) ty (.int .i64 cap) := fun a w d pos af he => by
  have g1 := he.gv hx; generalize a.eval = ρ at *
  simp [execOp, go_sem, g1, resolve, invoke, builtin, Builtin.cap_, run_underlying ht, goInt]

/-- a bound of a slice expression -/
def Bnd (e : Env) (o : Option Operand) (dflt i : Nat) : Prop := (o = none ∧ i = dflt) ∨ ∃ x k, o = some x ∧ gv e x = some (.int k (i : Int))
theorem bN {e : Env} {d : Nat} : Bnd e none d d := .inl ⟨rfl, rfl⟩
theorem bS {e : Env} {x : Operand} {d i : Nat} {k : IntKind} {j : Int} (h : gv e x = some (.int k j)) (hj : j = (i : Int)) : Bnd e (some x) d i := .inr ⟨x, k, rfl, by rw [h, hj]⟩

theorem bnd_run {e : Env} {n : Nat} {a : Act} {o : Option Operand} {d i lim : Nat} {cd : BoundsCode} {w : World} (he : EnvOk n e a) (h : Bnd e o d i) (hi : i ≤ lim) :
    ((match o.map a.eval with | some v => Instr.sliceBound v lim cd | none => pure d) : Sem Nat).run P w = .ok i w := by
  rcases h with ⟨rfl, rfl⟩ | ⟨x, k, rfl, hx⟩
  · rfl
  · have g1 := he.gv hx
    simp only [Option.map_some, g1]
    simp [Instr.sliceBound, asIntOf, go_sem, hi]

theorem y_sls {x : Operand} {lo hi : Option Operand} {t el : TypeId} {sz b o len cap l h : Nat} (hf : SlcAt P t el sz) (hx : gv e x = some (.slice (some ⟨b, o, none⟩) len cap)) (hl : Bnd e lo 0 l) (hh : Bnd e hi len h) (h1 : l ≤ h) (h2 : h ≤ cap) :
    Yields P n e (.slice t x lo hi none) ty (.slice (some ⟨b, (if cap = l then o else o + l * sz), none⟩) (h - l) (cap - l)) := fun a w d pos af he => by
  obtain ⟨inf, h3, h4, rfl⟩ := hf
  have g1 := he.gv hx
  have r1 := bnd_run (P := P) (w := w) (cd := .sliceAcap) he hh h2
  have r2 := bnd_run (P := P) (w := w) (cd := .sliceB) he hl h1
  generalize a.eval = ρ at *
  cases lo <;> cases hi <;> simp only [Option.map_none, Option.map_some] at r1 r2 <;>
    simp [execOp, go_sem, g1, Instr.sliceAt, Instr.slice, Instr.sliceBounds, run_underlying h3, sz_run h4, add_none] <;>
    simp_all [go_sem, add_none] <;> first | (subst r2; simp; done) | (split <;> simp; done) | skip
theorem y_sla {x : Operand} {lo hi : Option Operand} {t : TypeId} {sz b o len l h : Nat} (hf : ArrAt P t len sz) (hx : gv e x = some (.pointer (some ⟨b, o, none⟩))) (hl : Bnd e lo 0 l) (hh : Bnd e hi len h) (h1 : l ≤ h) (h2 : h ≤ len) :
    Yields P n e (.slice t x lo hi none) ty (.slice (some ⟨b, (if len = l then o else o + l * sz), none⟩) (h - l) (len - l)) := fun a w d pos af he => by
  obtain ⟨el, inf, h3, h4, rfl⟩ := hf
  have g1 := he.gv hx
  have r1 := bnd_run (P := P) (w := w) (cd := .sliceAlen) he hh h2
  have r2 := bnd_run (P := P) (w := w) (cd := .sliceB) he hl h1
  generalize a.eval = ρ at *
  cases lo <;> cases hi <;> simp only [Option.map_none, Option.map_some] at r1 r2 <;>
    simp [execOp, go_sem, g1, Instr.sliceAt, Instr.sureAddr, Instr.sliceBounds, run_underlying h3, sz_run h4, add_none] <;>
    simp_all [go_sem, add_none] <;> first | (subst r2; simp; done) | (split <;> simp; done) | skip
end
end Go.Eng
