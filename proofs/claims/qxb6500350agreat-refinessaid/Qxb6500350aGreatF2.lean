/- Structs compared. -/
import Derived.Test.Qxb6500350aGreatFacts
set_option linter.unusedVariables false
namespace Go.Proofs.Qxb6500350aGreat
open Go.Eng
theorem one_3' : One Tryz.prog 3 := .of (by kernel_rfl)
theorem one_9' : One Tryz.prog 9 := .of (by kernel_rfl)
theorem b3 {a b c : Prop} [Decidable a] [Decidable b] [Decidable c] {p : Prop} [Decidable p] (h : p ↔ a ∧ b ∧ c) : (decide a && (decide b && decide c)) = decide p := by
  apply Bool.eq_iff_iff.2; simp [h]
theorem b2 {a b : Prop} [Decidable a] [Decidable b] {p : Prop} [Decidable p] (h : p ↔ a ∧ b) : (decide a && decide b) = decide p := by
  apply Bool.eq_iff_iff.2; simp [h]
theorem eq_71 (a b : File) (d : Nat) (w : World) : (Op.equalIn (d + 1 + 1) 71 (.agg (File.enc a).toArray) (.agg (File.enc b).toArray)).run Tryz.prog w = .ok (decide (a = b)) w := by
  have h := eqStruct3 (P := Tryz.prog) (xs := (File.enc a).toArray) (ys := (File.enc b).toArray) Tryz.underlying71 (by kernel_rfl) (by decide) (by decide) (by decide) (.str (p := a.path) (q := b.path) Tryz.underlying9 one_9') (.str (p := a.data) (q := b.data) Tryz.underlying9 one_9') (.int (p := a.mode) (q := b.mode) Tryz.underlying3 one_3') rfl rfl rfl rfl rfl rfl d w
  rw [h, b3 (p := a = b) (by cases a; cases b; simp)]
theorem eq_196 (a b : Chg) (d : Nat) (w : World) : (Op.equalIn (d + 1 + 1) 196 (.agg (Chg.enc a).toArray) (.agg (Chg.enc b).toArray)).run Tryz.prog w = .ok (decide (a = b)) w := by
  have h := eqStruct3 (P := Tryz.prog) (xs := (Chg.enc a).toArray) (ys := (Chg.enc b).toArray) Tryz.underlying196 (by kernel_rfl) (by decide) (by decide) (by decide) (.str (p := a.path) (q := b.path) Tryz.underlying9 one_9') (.int (p := a.staged) (q := b.staged) Tryz.underlying3 one_3') (.int (p := a.work) (q := b.work) Tryz.underlying3 one_3') rfl rfl rfl rfl rfl rfl d w
  rw [h, b3 (p := a = b) (by cases a; cases b; simp)]
theorem eq_54 (a b : Head) (d : Nat) (w : World) : (Op.equalIn (d + 1 + 1) 54 (.agg (Head.enc a).toArray) (.agg (Head.enc b).toArray)).run Tryz.prog w = .ok (decide (a = b)) w := by
  have h := eqStruct3 (P := Tryz.prog) (xs := (Head.enc a).toArray) (ys := (Head.enc b).toArray) Tryz.underlying54 (by kernel_rfl) (by decide) (by decide) (by decide) (.str (p := a.name) (q := b.name) Tryz.underlying9 one_9') (.int (p := a.seq) (q := b.seq) Tryz.underlying3 one_3') (.int (p := a.merge) (q := b.merge) Tryz.underlying3 one_3') rfl rfl rfl rfl rfl rfl d w
  rw [h, b3 (p := a = b) (by cases a; cases b; simp)]
theorem eq_96 (a b : Ref_) (d : Nat) (w : World) : (Op.equalIn (d + 1 + 1) 96 (.agg (Ref_.enc a).toArray) (.agg (Ref_.enc b).toArray)).run Tryz.prog w = .ok (decide (a = b)) w := by
  have h := eqStruct2 (P := Tryz.prog) (xs := (Ref_.enc a).toArray) (ys := (Ref_.enc b).toArray) Tryz.underlying96 (by kernel_rfl) (by decide) (by decide) (.str (p := a.name) (q := b.name) Tryz.underlying9 one_9') (.int (p := a.seq) (q := b.seq) Tryz.underlying3 one_3') rfl rfl rfl rfl d w
  rw [h, b2 (p := a = b) (by cases a; cases b; simp)]
section
variable {n : Nat} {e : Env} {ty : TypeId} {x y : Operand} {t2 : TypeId}
theorem y_aeq_71 {a b : File} (hx : gv e x = some (.agg (File.enc a).toArray)) (hy : gv e y = some (.agg (File.enc b).toArray)) : Eng.Yields Tryz.prog n e (.binOp .eql 71 x y t2) ty (.bool (decide (a = b))) := y_aeq (by kernel_rfl) (eq_71 a b) hx hy
theorem y_ane_71 {a b : File} (hx : gv e x = some (.agg (File.enc a).toArray)) (hy : gv e y = some (.agg (File.enc b).toArray)) : Eng.Yields Tryz.prog n e (.binOp .neq 71 x y t2) ty (.bool (!(decide (a = b)))) := y_ane (by kernel_rfl) (eq_71 a b) hx hy
theorem y_aeq_54 {a b : Head} (hx : gv e x = some (.agg (Head.enc a).toArray)) (hy : gv e y = some (.agg (Head.enc b).toArray)) : Eng.Yields Tryz.prog n e (.binOp .eql 54 x y t2) ty (.bool (decide (a = b))) := y_aeq (by kernel_rfl) (eq_54 a b) hx hy
theorem y_ane_54 {a b : Head} (hx : gv e x = some (.agg (Head.enc a).toArray)) (hy : gv e y = some (.agg (Head.enc b).toArray)) : Eng.Yields Tryz.prog n e (.binOp .neq 54 x y t2) ty (.bool (!(decide (a = b)))) := y_ane (by kernel_rfl) (eq_54 a b) hx hy
theorem y_ane_96 {a b : Ref_} (hx : gv e x = some (.agg (Ref_.enc a).toArray)) (hy : gv e y = some (.agg (Ref_.enc b).toArray)) : Eng.Yields Tryz.prog n e (.binOp .neq 96 x y t2) ty (.bool (!(decide (a = b)))) := y_ane (by kernel_rfl) (eq_96 a b) hx hy
theorem y_ane_196 {a b : Chg} (hx : gv e x = some (.agg (Chg.enc a).toArray)) (hy : gv e y = some (.agg (Chg.enc b).toArray)) : Eng.Yields Tryz.prog n e (.binOp .neq 196 x y t2) ty (.bool (!(decide (a = b)))) := y_ane (by kernel_rfl) (eq_196 a b) hx hy
end
end Go.Proofs.Qxb6500350aGreat
