/- RULES: bytes to strings; structs compared. -/
import Derived.Test.Qxb6500350aGreatN4
import Derived.Laws.BytesString
import Derived.ChangeKeysEq
set_option linter.unusedVariables false
set_option linter.unusedSimpArgs false
namespace Go.Eng
theorem push_fold : ∀ (l : Str) (s : ByteArray), ((l.map (fun b => ((b.toNat : Nat) : Int))).foldl (fun r n => r.push (UInt8.ofNat n.toNat)) s) = ⟨(s.data.toList ++ l).toArray⟩
  | [], s => by cases s; simp
  | b :: l, s => by
    simp only [List.map_cons, List.foldl_cons]
    rw [push_fold l]
    have e1 : UInt8.ofNat (((b.toNat : Nat) : Int)).toNat = b := by simp
    rw [e1]
    have e2 : (s.push b).data.toList = s.data.toList ++ [b] := by cases s; simp [ByteArray.push]
    rw [e2]; simp
section
variable {c : Cx} {all : Array Oper} {rest : List Oper} {T L : Env} {S : SH} {Q : Env → SH → Prop} {ty : TypeId} {pos : String} {af : Array Edge}
theorem o_b2s {d : Nat} {x : Operand} {ts t e : TypeId} {v : Value} {l : Str} {C : List Chunk} (hs : c.P.underlying ts = some (.slice e)) (he : c.P.underlying e = some (.int .u8)) (hd : c.P.underlying t = some .string) (hx : gv (T ++ L) x = some v) (hv : Rd rByte C v l) (hC : ∀ z, z ∈ C → z ∈ S.flatten) (hdd : Nat.blt d c.n = true)
    (h : OkO c all rest ((d, .string ⟨l.toArray⟩) :: T) L S Q) : OkO c all (⟨some d, .convert ts t x, ty, pos, af, none⟩ :: rest) T L S Q := by
  intro Q' hQ a w hen hw
  refine wpList_plain rfl fun K hK => ?_
  have g1 := hen.gv hx
  have key : (Conv.bytesToString v).run c.P w = .ok (.string ⟨l.toArray⟩) w := by
    rcases hv with ⟨rfl, p, cap, rfl⟩ | ⟨b, o, cap, cs, t', fz, rfl, h1, h2, h3, h4⟩
    · cases p with
      | none => simp [Conv.bytesToString]; rfl
      | some a0 =>
        have := run_bytesToString (P := c.P) w a0 0 cap [] (by simp [loadCells, loadCellsFrom])
        rw [this]; rfl
    · have h5 := h4.bytes
      have h6 := run_loadCells (P := c.P) (o := o) hw (hC _ h1) l.length 0 #[] (by have h7 : rByte.sz = 1 := rfl; rw [h7] at h3; omega)
      have h8 : rByte.sz = 1 := rfl
      rw [h8, Nat.mul_one] at h5
      have h9 : cs.extract o (o + l.length) = (l.map (fun b => Value.int .u8 (b.toNat : Int))).toArray := by
        apply Array.ext'; rw [h5]
      simp only [Nat.add_zero, Array.empty_append, h9] at h6
      have := run_bytesToString (P := c.P) w ⟨b, o, none⟩ l.length cap (l.map (fun b => ((b.toNat : Nat) : Int))) (by
        unfold loadCells
        rw [h6]
        congr 2
        rw [List.map_map]; rfl)
      rw [this, push_fold]; rfl
  have h1 : (execOp a.eval ⟨some d, .convert ts t x, ty, pos, af, none⟩).run c.P w = .ok (.value (.string ⟨l.toArray⟩)) w := by
    obtain ⟨p, cap, rfl⟩ := hv.slice
    have h2 := run_convert_bytes_string (P := c.P) w ts t e p l.length cap hs he hd
    rw [key] at h2
    generalize a.eval = ρ at *
    generalize hz : convert ts t (Value.slice p l.length cap) = z at h2
    simp [execOp, go_sem, g1, hz, h2]
  rw [Oper.wp, h1, Oper.upon_value]
  exact hK _ _ (h Q' hQ _ _ (hen.putT _ hdd) hw)
end
/-! structs of strings and numbers compared -/
section
variable {P : Program} {n : Nat} {e : Env} {ty : TypeId}
/-- a plain field: a string or a number; what equality tells of it -/
inductive FEq (P : Program) : TypeId → Value → Value → Bool → Prop
  | str {t : TypeId} {p q : Str} : P.underlying t = some .string → One P t → FEq P t (.string ⟨p.toArray⟩) (.string ⟨q.toArray⟩) (decide (p = q))
  | int {t : TypeId} {k : IntKind} {p q : Int} : P.underlying t = some (.int k) → One P t → FEq P t (.int k p) (.int k q) (decide (p = q))
  | bool {t : TypeId} {p q : Bool} : P.underlying t = some .bool → One P t → FEq P t (.bool p) (.bool q) (decide (p = q))
theorem ba_beq (p q : Str) : (ByteArray.mk p.toArray == ByteArray.mk q.toArray) = decide (p = q) := by
  apply Bool.eq_iff_iff.2
  show ((p.toArray == q.toArray) = true) ↔ _
  simp
theorem FEq.run {t : TypeId} {u v : Value} {b : Bool} (h : FEq P t u v b) (d : Nat) (w : World) : (Op.equalIn (d + 1) t u v).run P w = .ok b w := by
  cases h with
  | str ht _ =>
    simp [Op.equalIn, run_underlying ht]
    exact ba_beq _ _
  | int ht _ =>
    simp [Op.equalIn, run_underlying ht]; exact Bool.eq_iff_iff.2 (by simp)
  | bool ht _ =>
    simp [Op.equalIn, run_underlying ht]; exact Bool.eq_iff_iff.2 (by simp)
theorem FEq.one {t : TypeId} {u v : Value} {b : Bool} (h : FEq P t u v b) : One P t := by cases h <;> assumption
theorem eqStruct2 {t : TypeId} {f1 f2 : Field} {xs ys : Array Value} {u1 u2 v1 v2 : Value} {b1 b2 : Bool} (ht : P.underlying t = some (.struct #[f1, f2])) (hst : P.stoodInHeld t = false)
    (n1 : f1.name ≠ "_") (n2 : f2.name ≠ "_") (h1 : FEq P f1.type u1 v1 b1) (h2 : FEq P f2.type u2 v2 b2) (x1 : xs[f1.offset]? = some u1) (x2 : xs[f2.offset]? = some u2) (y1 : ys[f1.offset]? = some v1) (y2 : ys[f2.offset]? = some v2) (d : Nat) (w : World) :
    (Op.equalIn (d + 1 + 1) t (.agg xs) (.agg ys)).run P w = .ok (b1 && b2) w := by
  have e1 := fun w => h1.run d w
  have e2 := fun w => h2.run d w
  have a1 := fun w => isAgg_one h1.one w
  have a2 := fun w => isAgg_one h2.one w
  rw [Op.equalIn]
  generalize Op.equalIn (d + 1) = eq at *
  cases b1 <;> cases b2 <;> simp [run_underlying ht, hst, go_sem, n1, n2, e1, e2, a1, a2, x1, x2, y1, y2]
theorem eqStruct3 {t : TypeId} {f1 f2 f3 : Field} {xs ys : Array Value} {u1 u2 u3 v1 v2 v3 : Value} {b1 b2 b3 : Bool} (ht : P.underlying t = some (.struct #[f1, f2, f3])) (hst : P.stoodInHeld t = false)
    (n1 : f1.name ≠ "_") (n2 : f2.name ≠ "_") (n3 : f3.name ≠ "_") (h1 : FEq P f1.type u1 v1 b1) (h2 : FEq P f2.type u2 v2 b2) (h3 : FEq P f3.type u3 v3 b3) (x1 : xs[f1.offset]? = some u1) (x2 : xs[f2.offset]? = some u2) (x3 : xs[f3.offset]? = some u3) (y1 : ys[f1.offset]? = some v1) (y2 : ys[f2.offset]? = some v2) (y3 : ys[f3.offset]? = some v3) (d : Nat) (w : World) :
    (Op.equalIn (d + 1 + 1) t (.agg xs) (.agg ys)).run P w = .ok (b1 && (b2 && b3)) w := by
  have e1 := fun w => h1.run d w
  have e2 := fun w => h2.run d w
  have e3 := fun w => h3.run d w
  have a1 := fun w => isAgg_one h1.one w
  have a2 := fun w => isAgg_one h2.one w
  have a3 := fun w => isAgg_one h3.one w
  rw [Op.equalIn]
  generalize Op.equalIn (d + 1) = eq at *
  cases b1 <;> cases b2 <;> cases b3 <;> simp [run_underlying ht, hst, go_sem, n1, n2, n3, e1, e2, e3, a1, a2, a3, x1, x2, x3, y1, y2, y3]
theorem y_aeq {x y : Operand} {t1 t2 : TypeId} {xs ys : Array Value} {b : Bool} (hm : P.eqGuardType P.depth t1 = false) (h : ∀ d w, (Op.equalIn (d + 1 + 1) t1 (.agg xs) (.agg ys)).run P w = .ok b w) (hx : gv e x = some (.agg xs)) (hy : gv e y = some (.agg ys)) :
    Yields P n e (.binOp .eql t1 x y t2) ty (.bool b) := fun a w d pos af he => by
  have g1 := he.gv hx; have g2 := he.gv hy; generalize a.eval = ρ at *
  have h1 := eq_top (w := w) (h 9998 w)
  generalize hz : Op.equal t1 (.agg xs) (.agg ys) = z at h1
  simp [execOp, go_sem, g1, g2, binOp, run_eqGuard_agg, hm, hz, h1]
theorem y_ane {x y : Operand} {t1 t2 : TypeId} {xs ys : Array Value} {b : Bool} (hm : P.eqGuardType P.depth t1 = false) (h : ∀ d w, (Op.equalIn (d + 1 + 1) t1 (.agg xs) (.agg ys)).run P w = .ok b w) (hx : gv e x = some (.agg xs)) (hy : gv e y = some (.agg ys)) :
    Yields P n e (.binOp .neq t1 x y t2) ty (.bool (!b)) := fun a w d pos af he => by
  have g1 := he.gv hx; have g2 := he.gv hy; generalize a.eval = ρ at *
  have h1 := eq_top (w := w) (h 9998 w)
  generalize hz : Op.equal t1 (.agg xs) (.agg ys) = z at h1
  simp [execOp, go_sem, g1, g2, binOp, run_eqGuard_agg, hm, hz, h1]
end
end Go.Eng
