import Derived.Test.Qxb6500351aGreatEngZ
import Derived.ChangeKeysEq
set_option linter.unusedVariables false
set_option linter.unusedSimpArgs false
namespace Go.Eng
def ne3 (a b : Nat → Int) : Bool := !(if a 0 == b 0 then (if a 1 == b 1 then a 2 == b 2 else false) else false)
theorem y_neq3 {P : Program} {n : Nat} {e : Env} {ty : TypeId} {x y : Operand} {t1 t2 el : TypeId} {a b : Nat → Int} (ha : P.underlying t1 = some (.array 3 el)) (hel : P.underlying el = some (.int .i64)) (ho : One P el) (hm : P.eqGuardType P.depth t1 = false)
    (hx : gv e x = some (.agg #[.int .i64 (a 0), .int .i64 (a 1), .int .i64 (a 2)])) (hy : gv e y = some (.agg #[.int .i64 (b 0), .int .i64 (b 1), .int .i64 (b 2)])) :
    Yields P n e (.binOp .neq t1 x y t2) ty (.bool (ne3 a b)) := fun ac w d pos af he => by
  have g1 := he.gv hx; have g2 := he.gv hy; generalize ac.eval = ρ at *
  obtain ⟨dd, i, h1, h2, h3, h4⟩ := ho
  have hag : ∀ w : World, (isAgg el).run P w = .ok false w := isAgg_one ⟨dd, i, h1, h2, h3, h4⟩
  have h5 : ∀ w : World, (Op.equalIn (9998 + 1 + 1) t1 (.agg #[.int .i64 (a 0), .int .i64 (a 1), .int .i64 (a 2)]) (.agg #[.int .i64 (b 0), .int .i64 (b 1), .int .i64 (b 2)])).run P w = .ok (!(ne3 a b)) w := fun w => by
    rw [run_equalIn_array w (9998 + 1) _ _ ha h3, h4]
    have hr : List.range 3 = [0, 1, 2] := rfl
    rw [hr]
    have e1 := fun p q => run_equalIn_int w 9998 el .i64 .i64 p q hel
    by_cases z1 : a 0 = b 0 <;> by_cases z2 : a 1 = b 1 <;> by_cases z3 : a 2 = b 2 <;> simp [Op.eqItems, part, hag, e1, go_sem, ne3, z1, z2, z3]
  have h6 := h5 w
  simp [execOp, go_sem, g1, g2, run_eqGuard_agg, hm]
  generalize hz : Op.equalIn 10000 t1 _ _ = z
  have h7 : z.run P w = .ok (!(ne3 a b)) w := by rw [← hz]; exact h6
  simp [h7, go_sem]
section
variable {c : Cx} {d : Dx} {f : Nat} {listed : Array Bool} {T L : Env} {S : SH} {Q : Env → SH → Prop} {ty : TypeId} {pos : String} {af : Array Edge}
/-- a soft load of some cells -/
theorem d_ldag (i : Nat) {s : Nat} {g : Option (Nat × Bool)} {x : Operand} {t t' : TypeId} {b o sz : Nat} {cs vs : Array Value} {fz : Nat × Nat} (hi : d.ops[i]? = some ⟨some s, .load t x, ty, pos, af, g⟩) (hw : ∀ a, EnvOk c.n (T ++ L) a → Region.wanted (⟨some s, .load t x, ty, pos, af, g⟩ : Oper) (yielded d.ops a.tmps) = true) (hb : softB d.ops d.ph listed i = true) (ht : Agg c.P t sz) (hx : gv (T ++ L) x = some (.pointer (some ⟨b, o, none⟩)))
    (hk : ∀ x, x ∈ d.Ck → x ∈ S.flatten) (hm : (b, Obj.cells cs t' fz) ∈ d.Ck) (hc : cs.extract o (o + sz) = vs) (hl : o + sz ≤ cs.size) (hd : Nat.blt s c.n = true)
    (h : OkD c d f (listed.setIfInBounds i true) ((s, .agg vs) :: T) L S Q) : OkD c d (f + 1) listed T L S Q := by
  intro a w he hs
  refine softB_spec (v := .agg vs) hi hb (.inl ⟨hw a he, fun w' hk' => ?_⟩) (fun _ x hx => hs.1.2 x (hk x hx)) (h _ _ (he.putT _ hd) hs)
  have h0 := hk' rfl _ hm
  simp only at h0
  have g1 := he.gv hx
  have g2 := run_loadH (P := c.P) (o := o) h0 sz 0 #[] (by omega)
  have h3 := ht
  obtain ⟨_, i', _, _, hi', hsz⟩ := h3
  subst hc
  generalize a.eval = ρ at *
  simp at g2
  simp [execOp, go_sem, g1, Instr.loadAt, Instr.sureAddr, loadVar, isAgg_agg ht, sz_run hi', hsz, loadCells, g2]
theorem d_lda (i : Nat) {s : Nat} {x : Operand} {t t' : TypeId} {b o sz : Nat} {cs vs : Array Value} {fz : Nat × Nat} (hi : d.ops[i]? = some ⟨some s, .load t x, ty, pos, af, none⟩) (hb : softB d.ops d.ph listed i = true) (ht : Agg c.P t sz) (hx : gv (T ++ L) x = some (.pointer (some ⟨b, o, none⟩)))
    (hk : ∀ x, x ∈ d.Ck → x ∈ S.flatten) (hm : (b, Obj.cells cs t' fz) ∈ d.Ck) (hc : cs.extract o (o + sz) = vs) (hl : o + sz ≤ cs.size) (hd : Nat.blt s c.n = true)
    (h : OkD c d f (listed.setIfInBounds i true) ((s, .agg vs) :: T) L S Q) : OkD c d (f + 1) listed T L S Q :=
  d_ldag i hi (fun a _ => by simp [Region.wanted]) hb ht hx hk hm hc hl hd h
theorem d_ldat (i : Nat) {s s2 j : Nat} {bb : Bool} {oj : Oper} {x : Operand} {t t' : TypeId} {b o sz : Nat} {cs vs : Array Value} {fz : Nat × Nat} (hi : d.ops[i]? = some ⟨some s, .load t x, ty, pos, af, some (j, bb)⟩) (hj : d.ops[j]? = some oj) (hdj : oj.dst = some s2) (hv : gt (T ++ L) s2 = some (.bool bb)) (hb : softB d.ops d.ph listed i = true) (ht : Agg c.P t sz) (hx : gv (T ++ L) x = some (.pointer (some ⟨b, o, none⟩)))
    (hk : ∀ x, x ∈ d.Ck → x ∈ S.flatten) (hm : (b, Obj.cells cs t' fz) ∈ d.Ck) (hc : cs.extract o (o + sz) = vs) (hl : o + sz ≤ cs.size) (hd : Nat.blt s c.n = true)
    (h : OkD c d f (listed.setIfInBounds i true) ((s, .agg vs) :: T) L S Q) : OkD c d (f + 1) listed T L S Q :=
  d_ldag i hi (fun a he => by simp [Region.wanted, yielded, hj, hdj, he.2.2 s2 _ hv]) hb ht hx hk hm hc hl hd h
end
end Go.Eng
