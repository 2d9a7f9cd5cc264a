/- THE ENGINE, part 15: a slice over its full capacity. -/
import Derived.Test.Qxb6500351aGreatEngT
set_option linter.unusedVariables false
set_option linter.unusedSimpArgs false
namespace Go.Eng
section
variable {P : Program} {n : Nat} {e : Env} {ty : TypeId}
theorem y_full {x hi : Operand} {t el : TypeId} {sz b o len cap : Nat} {k : IntKind} (hf : SlcAt P t el sz) (hx : gv e x = some (.slice (some ⟨b, o, none⟩) len cap)) (hh : gv e hi = some (.int k (cap : Int))) :
    Yields P n e (.slice t x none (some hi) none) ty (.slice (some ⟨b, o, none⟩) cap cap) := by
  have h := y_sls (P := P) (n := n) (ty := ty) (l := 0) (h := cap) hf hx bN (bS hh rfl) (Nat.zero_le _) (Nat.le_refl _)
  have e1 : (if cap = 0 then o else o + 0 * sz) = o := by split <;> simp
  rw [e1] at h
  simpa using h
theorem y_fullN {x hi : Operand} {t el : TypeId} {sz : Nat} {k : IntKind} (hf : SlcAt P t el sz) (hx : gv e x = some (.slice none 0 0)) (hh : gv e hi = some (.int k 0)) :
    Yields P n e (.slice t x none (some hi) none) ty (.slice none 0 0) := fun a w d pos af he => by
  obtain ⟨inf, h3, h4, rfl⟩ := hf
  have g1 := he.gv hx
  have r1 := bnd_run (P := P) (w := w) (cd := .sliceAcap) (lim := 0) he (bS (d := 0) (i := 0) hh rfl) (Nat.le_refl _)
  have r2 := bnd_run (P := P) (w := w) (cd := .sliceB) (lim := 0) he (bN (e := e) (d := 0)) (Nat.le_refl _)
  generalize a.eval = ρ at *
  simp only [Option.map_none, Option.map_some] at r1 r2
  simp [execOp, go_sem, g1, Instr.sliceAt, Instr.slice, Instr.sliceBounds, run_underlying h3, sz_run h4]
  simp_all [go_sem]
end
theorem sel0 {S F : SH} {a b : List Chunk} (h : Sel S [a, b] F) : Sel S [a, [], b] F := by
  unfold Sel at *; simpa using h
theorem o_dropnil {c : Cx} {all : Array Oper} {l : List Oper} {T L : Env} {S : SH} {Q : Env → SH → Prop} {a : List Chunk} (h : OkO c all l T L (a :: S) Q) : OkO c all l T L ([a, []] ++ S) Q :=
  o_perm (by simp) h
end Go.Eng
