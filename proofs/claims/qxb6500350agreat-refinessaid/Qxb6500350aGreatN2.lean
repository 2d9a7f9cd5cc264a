/- RULES over things in memory: strings, lists. -/
import Derived.Test.Qxb6500350aGreatN1
set_option linter.unusedVariables false
set_option linter.unusedSimpArgs false
namespace Go.Eng

/-! ### Strings and bytes are lists of bytes -/
abbrev Str := List UInt8
def sLt (p q : Str) : Bool := Op.bytesLess p q
def sAdd (p q : Str) : Option Str := if p.length + q.length ≤ 9223372036854775807 then some (p ++ q) else none
def sIx (p : Str) (i : Int) : Option UInt8 := if 0 ≤ i then p[i.toNat]? else none
def sSl (p : Str) (lo hi : Int) : Option Str := if 0 ≤ lo ∧ lo ≤ hi ∧ hi ≤ p.length then some ((p.take hi.toNat).drop lo.toNat) else none
def ixL {α : Type} (l : List α) (i : Int) : Option α := if 0 ≤ i then l[i.toNat]? else none
def stL {α : Type} (l : List α) (i : Int) (x : α) : Option (List α) := if 0 ≤ i ∧ i < l.length then some (l.set i.toNat x) else none
def slL {α : Type} (l : List α) (lo hi : Int) : Option (List α) := if 0 ≤ lo ∧ lo ≤ hi ∧ hi ≤ l.length then some ((l.drop lo.toNat).take (hi.toNat - lo.toNat)) else none
def apd {α : Type} (l : List α) (x : α) : Option (List α) := if l.length < 1073741824 then some (l ++ [x]) else none
def apds {α : Type} (l m : List α) : Option (List α) := if l.length < 268435456 ∧ m.length < 268435456 then some (l ++ m) else none
def mkL {α : Type} (n c : Int) (z : α) : Option (List α) := if 0 ≤ n ∧ n ≤ c ∧ c < 1073741824 then some (List.replicate n.toNat z) else none
def ckA (i n : Int) : Option Unit := if 0 ≤ i ∧ i < n then some () else none
/-- the byte of a number -/
def u8 (i : Int) : UInt8 := UInt8.ofNat (i % 256).toNat
theorem u8_eq (i : Int) : IntKind.u8.wrap i = ((u8 i).toNat : Int) := by
  rw [w8]
  unfold u8
  have h1 : (UInt8.ofNat (i % 256).toNat).toNat = (i % 256).toNat := UInt8.toNat_ofNat_of_lt' (by show _ < 256; omega)
  rw [h1]
  omega
theorem ckA_some {i n : Int} {u : Unit} (h : ckA i n = some u) : 0 ≤ i ∧ i < n := by
  unfold ckA at h; split at h
  · assumption
  · cases h
theorem ixL_lt {α : Type} {l : List α} {i : Int} {a : α} (h : ixL l i = some a) : 0 ≤ i ∧ i < l.length ∧ l[i.toNat]? = some a := by
  unfold ixL at h; split at h
  · rename_i h0
    obtain ⟨h1, _⟩ := List.getElem?_eq_some_iff.1 h
    exact ⟨h0, by omega, h⟩
  · cases h
theorem bd {α β : Type} {x : Option α} {f : α → Option β} {r : β} (h : Option.bind x f = some r) : ∃ y, x = some y ∧ f y = some r := by
  cases x with
  | none => cases h
  | some y => exact ⟨y, rfl, h⟩
theorem cd_t {α : Type} {b : Bool} {x y : Option α} {r : α} (hb : b = true) (h : cond b x y = some r) : x = some r := by subst hb; exact h
theorem cd_f {α : Type} {b : Bool} {x y : Option α} {r : α} (hb : b = false) (h : cond b x y = some r) : y = some r := by subst hb; exact h

theorem ba_toList_loop (bs : ByteArray) : ∀ (k i : Nat) (r : List UInt8), bs.size - i = k → ByteArray.toList.loop bs i r = r.reverse ++ bs.data.toList.drop i := by
  intro k
  induction k with
  | zero =>
    intro i r h
    rw [ByteArray.toList.loop, if_neg (by omega), List.drop_of_length_le (by show bs.size ≤ i; omega)]; simp
  | succ k ih =>
    intro i r h
    have hi : i < bs.size := by omega
    have hi' : i < bs.data.toList.length := hi
    rw [ByteArray.toList.loop, if_pos hi, ih (i + 1) _ (by omega), List.drop_eq_getElem_cons hi']
    have : bs.get! i = bs.data.toList[i] := by
      show bs.data[i]! = _
      rw [getElem!_pos bs.data i hi]
      simp
    rw [this]
    simp
theorem ba_toList (bs : ByteArray) : bs.toList = bs.data.toList := by
  unfold ByteArray.toList
  rw [ba_toList_loop bs (bs.size - 0) 0 [] rfl]
  simp
theorem ba_toList_mk (p : Str) : (ByteArray.mk p.toArray).toList = p := by rw [ba_toList]
theorem ba_eta (b : ByteArray) : b = ByteArray.mk b.data.toList.toArray := by cases b; simp
section
variable {P : Program} {n : Nat} {e : Env} {ty : TypeId}
theorem y_sadd {x y : Operand} {p q r : Str} {t1 t2 : TypeId} (hx : gv e x = some (.string ⟨p.toArray⟩)) (hy : gv e y = some (.string ⟨q.toArray⟩)) (hr : sAdd p q = some r) : Yields P n e (.binOp .add t1 x y t2) ty (.string ⟨r.toArray⟩) := fun a w d pos af he => by
  have g1 := he.gv hx; have g2 := he.gv hy; generalize a.eval = ρ at *
  unfold sAdd at hr; split at hr
  · rename_i h; cases hr
    have h1 : (ByteArray.mk p.toArray).size = p.length := by show p.toArray.size = _; simp
    have h2 : (ByteArray.mk q.toArray).size = q.length := by show q.toArray.size = _; simp
    have h3 : ¬ (IntKind.i64.max < ((p.length : Int) + (q.length : Int))) := by
      have : IntKind.i64.max = 9223372036854775807 := rfl
      omega
    have h5 : ((p.length : Int) + (q.length : Int)) ≤ 9223372036854775807 := by omega
    have h4 : (ByteArray.mk p.toArray ++ ByteArray.mk q.toArray) = ByteArray.mk (p ++ q).toArray := by
      apply ByteArray.ext
      rw [ByteArray.data_append]; simp
    simp [execOp, go_sem, g1, g2, binOp, Op.stringOp, eqGuard, h1, h2, h3, h4, h5]
  · cases hr
theorem y_seq {x y : Operand} {p q : Str} {t1 t2 : TypeId} (hx : gv e x = some (.string ⟨p.toArray⟩)) (hy : gv e y = some (.string ⟨q.toArray⟩)) : Yields P n e (.binOp .eql t1 x y t2) ty (.bool (decide (p = q))) := fun a w d pos af he => by
  have g1 := he.gv hx; have g2 := he.gv hy; generalize a.eval = ρ at *
  simp [execOp, go_sem, g1, g2, binOp, Op.stringOp, eqGuard, ba_toList_mk]; exact Bool.eq_iff_iff.2 (by simp)
theorem y_sne {x y : Operand} {p q : Str} {t1 t2 : TypeId} (hx : gv e x = some (.string ⟨p.toArray⟩)) (hy : gv e y = some (.string ⟨q.toArray⟩)) : Yields P n e (.binOp .neq t1 x y t2) ty (.bool (!decide (p = q))) := fun a w d pos af he => by
  have g1 := he.gv hx; have g2 := he.gv hy; generalize a.eval = ρ at *
  simp [execOp, go_sem, g1, g2, binOp, Op.stringOp, eqGuard, ba_toList_mk]; exact Bool.eq_iff_iff.2 (by simp)
theorem y_slt {x y : Operand} {p q : Str} {t1 t2 : TypeId} (hx : gv e x = some (.string ⟨p.toArray⟩)) (hy : gv e y = some (.string ⟨q.toArray⟩)) : Yields P n e (.binOp .lss t1 x y t2) ty (.bool (sLt p q)) := fun a w d pos af he => by
  have g1 := he.gv hx; have g2 := he.gv hy; generalize a.eval = ρ at *
  simp [execOp, go_sem, g1, g2, binOp, Op.stringOp, eqGuard, ba_toList_mk, sLt]
theorem y_sle {x y : Operand} {p q : Str} {t1 t2 : TypeId} (hx : gv e x = some (.string ⟨p.toArray⟩)) (hy : gv e y = some (.string ⟨q.toArray⟩)) : Yields P n e (.binOp .leq t1 x y t2) ty (.bool (sLt p q || decide (p = q))) := fun a w d pos af he => by
  have g1 := he.gv hx; have g2 := he.gv hy; generalize a.eval = ρ at *
  simp [execOp, go_sem, g1, g2, binOp, Op.stringOp, eqGuard, ba_toList_mk, sLt]; exact Bool.eq_iff_iff.2 (by simp)
theorem y_sgt {x y : Operand} {p q : Str} {t1 t2 : TypeId} (hx : gv e x = some (.string ⟨p.toArray⟩)) (hy : gv e y = some (.string ⟨q.toArray⟩)) : Yields P n e (.binOp .gtr t1 x y t2) ty (.bool (!(sLt p q || decide (p = q)))) := fun a w d pos af he => by
  have g1 := he.gv hx; have g2 := he.gv hy; generalize a.eval = ρ at *
  simp [execOp, go_sem, g1, g2, binOp, Op.stringOp, eqGuard, ba_toList_mk, sLt]; exact Bool.eq_iff_iff.2 (by simp)
theorem y_sge {x y : Operand} {p q : Str} {t1 t2 : TypeId} (hx : gv e x = some (.string ⟨p.toArray⟩)) (hy : gv e y = some (.string ⟨q.toArray⟩)) : Yields P n e (.binOp .geq t1 x y t2) ty (.bool (!(sLt p q))) := fun a w d pos af he => by
  have g1 := he.gv hx; have g2 := he.gv hy; generalize a.eval = ρ at *
  simp [execOp, go_sem, g1, g2, binOp, Op.stringOp, eqGuard, ba_toList_mk, sLt]
theorem y_slen {x : Operand} {t : TypeId} {p : Str} (ht : P.underlying t = some .string) (hx : gv e x = some (.string ⟨p.toArray⟩)) : Yields P n e (.call ⟨.builtin .len, #[x], #[t]⟩) ty (.int .i64 (p.length : Int)) := fun a w d pos af he => by
  rw [y_lens ht hx a w d pos af he]
  have : (ByteArray.mk p.toArray).size = p.length := by show p.toArray.size = _; simp
  rw [this]
theorem y_sidx {x y : Operand} {t : TypeId} {p : Str} {k : IntKind} {i : Int} {b : UInt8} (ht : P.underlying t = some .string) (hx : gv e x = some (.string ⟨p.toArray⟩)) (hy : gv e y = some (.int k i)) (hr : sIx p i = some b) : Yields P n e (.index t x y) ty (.int .u8 (b.toNat : Int)) := fun a w d pos af he => by
  have g1 := he.gv hx; have g2 := he.gv hy; generalize a.eval = ρ at *
  unfold sIx at hr; split at hr
  · rename_i h0
    obtain ⟨hlt, hb⟩ := List.getElem?_eq_some_iff.1 hr
    have h1 : (ByteArray.mk p.toArray)[i.toNat]? = some b := by
      have h2 : i.toNat < (ByteArray.mk p.toArray).size := by show _ < p.toArray.size; simpa using hlt
      rw [getElem?_pos (ByteArray.mk p.toArray) i.toNat h2, ByteArray.getElem_eq_getElem_data]
      simp [hb]
    simp [execOp, go_sem, g1, g2, Instr.index, asIntOf, run_underlying ht, h0, h1]
  · cases hr
/-- a bound of a slice expression, as a number -/
def BndI (e : Env) (o : Option Operand) (dflt i : Int) : Prop := (o = none ∧ i = dflt) ∨ ∃ x k, o = some x ∧ gv e x = some (.int k i)
theorem biN {e : Env} {d : Int} : BndI e none d d := .inl ⟨rfl, rfl⟩
theorem biS {e : Env} {x : Operand} {d i : Int} {k : IntKind} (h : gv e x = some (.int k i)) : BndI e (some x) d i := .inr ⟨x, k, rfl, h⟩
theorem BndI.nat {e : Env} {o : Option Operand} {d : Nat} {i : Int} (h : BndI e o (d : Int) i) (h0 : 0 ≤ i) : Bnd e o d i.toNat := by
  rcases h with ⟨rfl, rfl⟩ | ⟨x, k, rfl, hx⟩
  · exact .inl ⟨rfl, by simp⟩
  · exact .inr ⟨x, k, rfl, by rw [hx]; congr 2; omega⟩
theorem y_ssl {x : Operand} {lo hi : Option Operand} {t : TypeId} {p r : Str} {l h : Int} (ht : P.underlying t = some .string) (hx : gv e x = some (.string ⟨p.toArray⟩)) (hl : BndI e lo 0 l) (hh : BndI e hi (p.length : Int) h) (hr : sSl p l h = some r) :
    Yields P n e (.slice t x lo hi none) ty (.string ⟨r.toArray⟩) := fun a w d pos af he => by
  unfold sSl at hr; split at hr
  · rename_i hc
    cases hr
    obtain ⟨h1, h2, h3⟩ := hc
    have hsz : (ByteArray.mk p.toArray).size = p.length := by show p.toArray.size = _; simp
    have g1 := he.gv hx
    have r1 := bnd_run (P := P) (w := w) (cd := .sliceAlen) he (BndI.nat hh (by omega)) (show h.toNat ≤ p.length by omega)
    have r2 := bnd_run (P := P) (w := w) (cd := .sliceB) he (BndI.nat (d := 0) hl h1) (show l.toNat ≤ h.toNat by omega)
    have h4 : (ByteArray.mk p.toArray).extract l.toNat h.toNat = ByteArray.mk ((p.take h.toNat).drop l.toNat).toArray := by
      apply ByteArray.ext
      rw [ByteArray.data_extract]
      apply Array.ext'
      simp [List.drop_take]
    generalize a.eval = ρ at *
    cases lo <;> cases hi <;> simp only [Option.map_none, Option.map_some] at r1 r2 <;>
      simp [execOp, go_sem, g1, Instr.sliceAt, Instr.slice, Instr.sliceBounds, run_underlying ht, hsz] <;> simp_all [go_sem, hsz]
    rw [← r2, ← r1]; simp
  · cases hr
end
end Go.Eng
